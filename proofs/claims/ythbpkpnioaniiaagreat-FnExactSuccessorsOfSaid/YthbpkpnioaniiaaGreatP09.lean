import Derived.Test.YthbpkpnioaniiaaGreatP08
set_option maxHeartbeats 40000000
set_option maxRecDepth 100000
set_option linter.all false
namespace Go.Proofs.YthbpkpnioaniiaaGreat
open Go.RowKit Go.Proofs.Tryz
open Go.Value renaming int->I,slice->A
open Go.IntKind renaming i64->Z
open Option renaming none->N,some->R
open Bool renaming true->Bn,and_eq_true->Bl
open Go renaming World->Bh,Value->Bk,Addr->Cm
open Go.World renaming cell?_setCell_same->Bw
open List renaming sum_cons->Fp,length_flatMap->Hz,length_take->Cj,foldl_cons->Ce,length_cons->Bs
structure PS where
 S:MS
 wb:Nat
 wo:Nat
 wcap:Nat
 Fw:List (List Nat)
def PS.all(P:PS):List Nat:=P.S.all++P.wb::P.Fw.flatten
def PS.putW(P:PS)(k:Nat)(G:List Nat):PS:= {P with Fw:=P.Fw.set k G}
structure Zj (w:Bh) (pb po:Nat) (p:J9) (P:PS):Prop where
 mem:Z8 w pb po (pM p) P.S
 c5:w.cell? ⟨pb,po+5,N⟩=R (A (R ⟨P.wb,P.wo,N⟩) (pW p).length P.wcap)
 c6:w.cell? ⟨pb,po+6,N⟩=R (I Z (pA p))
 i64:Qqm (pA p)
 wks:Q1f w P.wb P.wo P.wcap (pW p) P.Fw
 nd:(pb::P.all).Nodup
section
variable {w w':Bh} {pb po:Nat} {p:J9} {P:PS}
theorem Zj.lt(h:Zj w pb po p P):∀b∈pb::P.all,b<w.heap.size:=by
 intro b B;unfold PS.all at B;rw[Aq,At0]at B;rcases B with B|B|B
 ·exact h.mem.lt b (B▸Ae)
 ·exact h.mem.lt b (Aa _ B)
 ·exact h.wks.lt b B
theorem Zj.ap(h:Zj w pb po p P):(∀b∈P.wb::P.Fw.flatten,b≠pb/\b∉P.S.all)/\∀b∈pb::P.S.all,b∉P.wb::P.Fw.flatten:=by
 have E:=Ar.1 h.nd;unfold PS.all at E;have F:=Ba.1 E.2;have:∀b∈P.wb::P.Fw.flatten,b≠pb/\b∉P.S.all:=λb B=>⟨λe=>E.1 (Af _ (e▸B)),λC=>F.2.2 b C b B rfl⟩;exact⟨this,λb B C=>by
  rcases Aq.1 B with e|B
  ·exact(this b C).1 e
  ·exact(this b C).2 B⟩
theorem Zj.frame{X:Nat->Prop}(h:Zj w pb po p P)(k:Q1 X w w')(hX:∀b∈pb::P.all,¬X b):Zj w' pb po p P:=by
 have C:=hX pb Ae;have E:=h.mem.blk.lt;refine⟨h.mem.frame k λb B=>hX b ?_,(k.cell E C _).trans h.c5,(k.cell E C _).trans h.c6,h.i64,h.wks.frame k λb B=>hX b ?_,h.nd⟩
 ·rcases Aq.1 B with e|B
  ·exact e▸Ae
  ·exact Aa _ (Ag _ B)
 ·exact Aa _ (Af _ B)
theorem Zj.kept(h:Zj w pb po p P)(k:Below w.heap.size w w'):Zj w' pb po p P:=h.frame (X:=λ_=>False) (Ay k) (λ_ _ h=>h)
theorem Zj.drew(h:Zj w pb po p P):Zj w.drew pb po p P:=h.frame (X:=λ_=>False) (Q1.refl _ _).drew (λ_ _ h=>h)
theorem Q10{b B n q:Nat}{v:Bk}(h:w.cell? ⟨b,q,N⟩=R v)(C:Qr4 w b)(k:Q9 b B n w w')(G:q<B\/B+n<=q):w'.cell? ⟨b,q,N⟩=R v:=by
 have E:Qqw w b q [v]:=λj F=>by
  obtain rfl:j=0:=by simpa using F
  exact h
 exact Qac (E.keep C k (by simp only[List.length_singleton];omega))
theorem Zj.memStep{F:Qqp}{S':MS}(h:Zj w pb po p P)(G:Z8 w' pb po F S')(K:Q1 (λc=>c=pb\/c∈P.S.all) w w')(H:Q9 pb po 5 w w')(L:∀b∈S'.all,b∈P.S.all\/w.heap.size<=b):Zj w' pb po (F,pW p,pA p) {P with S:=S'}:=by
 obtain⟨E,T⟩:=h.ap;have M:=h.wks.lt;refine⟨G,Q10 h.c5 h.mem.blk H (by omega),Q10 h.c6 h.mem.blk H (by omega),h.i64,h.wks.frame K λb C e=>(E b C).elim λx y=>e.elim x y, ?_⟩;have J:=Ar.1 G.nodup;show(pb::(S'.all++P.wb::P.Fw.flatten)).Nodup;rw[Ar,Ba];refine⟨λB=> ?_,J.2,h.wks.nodup,λa O b C e=> ?_⟩
 ·rcases At0.1 B with B|B
  ·exact J.1 B
  ·exact(E _ B).1 rfl
 ·subst e
  rcases L a O with B|B
  ·exact(E a C).2 B
  ·have:=M a C;omega
theorem Zj.setA(h:Zj w pb po p P){a:Int}(H:Qqm a):Zj (w.setCell ⟨pb,po+6,N⟩ (I Z a)) pb po (pM p,pW p,a) P:=by
 obtain⟨J,U⟩:=h.ap;have f1:=Ze w pb (po+6) (I Z a);have C:Q9 pb (po+6) 1 w (w.setCell ⟨pb,po+6,N⟩ (I Z a)):=(Q9.refl _ _ _ _).set (po+6) (by omega) _;have E:=Ar.1 h.mem.nodup;have V:=h.mem.lt;obtain⟨px,cx,F,K,L,M,O,S,G,T⟩:=h.mem;refine⟨⟨px,cx,F.keep C,K.keep F C (by simp),L,M,O,S.frame f1 λb B e=> ?_,G.frame f1 λb B=>⟨G.lt b B,λe=> ?_⟩,T⟩,Q10 h.c5 F C (by omega),Bw _ _ _ h.c6,H,h.wks.frame f1 λb B e=>(J b B).1 e,h.nd⟩
 ·subst e
  rcases Aq.1 B with B|B
  ·exact E.1 (B▸Ae)
  ·exact E.1 (Aa _ (At0.2 (.inl B)))
 ·subst e
  exact E.1 (Aa _ (At0.2 (.inr B)))
def Vt(p:J9)(k:Nat)(y:Qqb):J9:=(pM p,(pW p).set k y,pA p)
theorem Q95{p:J9}{k:Nat}(h:k<(pW p).length):Q5 p k=(pW p)[k]:=by
 unfold Q5;rw[Ab,Ad h];rfl
theorem Zj.turnW(h:Zj w pb po p P){k:Nat}(U:k<(pW p).length){us':List Bk}{y:Qqb}{G:List Nat}(E:Q1 (λc=>c=P.wb\/c∈P.Fw.getD k []) w w')(V:Q9 P.wb (P.wo+k * 5) 5 w w')(W:Qqw w' P.wb (P.wo+k * 5) us')
  (X:Ow Qc w' us' y G) (Y:G.Nodup) (J:∀b∈G,b∈P.Fw.getD k []\/b∉pb::P.all):Zj w' pb po (Vt p k y) (P.putW k G):=by
 obtain⟨F,d⟩:=h.ap;have g:=h.wks.len;have hX:∀b∈pb::P.S.all,¬(b=P.wb\/b∈P.Fw.getD k []):=λb B e=>d b B (e.elim (λe=>e▸Ae) λe=>Aa _ (Zu (by omega) e));have K:=hX pb Ae;have L:=h.mem.blk.lt;have M:=h.wks.turn U E V W X Y λb B=>(J b B).imp id λe H=>e (Aa _ (Af _ H));have O:=Ar.1 h.nd;refine⟨h.mem.frame E hX, ?_,(E.cell L K _).trans h.c6,h.i64,M, ?_⟩
 ·rw[E.cell L K]
  show _=R (A _ ((pW p).set k y).length _);rw[List.length_set];exact h.c5
 ·show(pb::(P.S.all++P.wb::(P.Fw.set k G).flatten)).Nodup
  have T:∀b∈P.wb::(P.Fw.set k G).flatten,b≠pb/\b∉P.S.all:=by
   intro b B;rcases Aq.1 B with e|B
   ·exact F b (e▸Ae)
   ·rcases Yv B with B|⟨j,hj,_,B⟩
    ·rcases J b B with B|B
     ·exact F b (Aa _ (Zu (by omega) B))
     ·exact⟨λe=>B (e▸Ae),λH=>B (Aa _ (Ag _ H))⟩
    ·exact F b (Aa _ (Zu hj B))
  rw[Ar,Ba];refine⟨λC=> ?_,(Ba.1 O.2).1,M.nodup,λa f b B e=>(T b B).2 (e▸f)⟩;rcases At0.1 C with C|C
  ·exact O.1 (Ag _ C)
  ·exact(T _ C).1 rfl
theorem Ow.worker{us:List Bk}{x:Qqb}{G:List Nat}(h:Ow Qc w us x G):
  ∃(px:Option Cm) (cx:Nat) (B:Option Cm) (C:Nat) (E:Option Cm) (F:Nat) (H J K:List Nat),us=[I Z (wP x),I Z (wV x),A px (wX x).length cx,A B (wL x).length C,A E (wC x).length F]/\G=H++(J++K)/\
   Ow (.slice Q4) w [A px (wX x).length cx] (wX x) H/\Ow (.slice Qu) w [A B (wL x).length C] (wL x) J/\Ow (.slice .int) w [A E (wC x).length F] (wC x) K/\Qqm (wP x)/\Qqm (wV x):=by
 obtain⟨_,_,_,_,rfl,rfl,⟨rfl,P,rfl⟩,_,_,_,_,rfl,rfl,⟨rfl,S,rfl⟩,_,_,H,_,rfl,rfl,L,_,_,J,K,rfl,rfl,M,O⟩:=h;obtain⟨px,cx,rfl,L⟩:=Jx L;obtain⟨B,C,rfl,M⟩:=Jx M;obtain⟨E,F,rfl,O⟩:=Jx O;exact⟨px,cx,B,C,E,F,H,J,K,rfl,by simp,L,M,O,P,S⟩
theorem Ow.mkWorker{B C:Int}{xs:List Wd}{H:List Qqt}{cs:List Int}{px J K:Option Cm}{L cx M O P S:Nat}{E F G:List Nat}(T:Qqm B)(U:Qqm C)
  (V:Ow (.slice Q4) w [A px L cx] xs E) (W:Ow (.slice Qu) w [A J M O] H F) (X:Ow (.slice .int) w [A K P S] cs G):
  Ow Qc w [I Z B,I Z C,A px L cx,A J M O,A K P S] (B,C,xs,H,cs) (E++(F++G)):=
 ⟨[_],_,[],_,rfl,rfl,⟨rfl,T,rfl⟩,[_],_,[],_,rfl,rfl,⟨rfl,U,rfl⟩,[_],_,E,_,rfl,rfl,V,[_],[_],F,G,rfl,rfl,W,X⟩
theorem Zj.focus(h:Zj w pb po p P){k:Nat}(M:k<(pW p).length):
  ∃(px:Option Cm) (cx:Nat) (F:Option Cm) (G:Nat) (H:Option Cm) (J:Nat) (B C E:List Nat),
   (w.cell? ⟨P.wb,P.wo+k * 5,N⟩=R (I Z (wP (Q5 p k)))/\w.cell? ⟨P.wb,P.wo+k * 5+1,N⟩=R (I Z (wV (Q5 p k)))/\w.cell? ⟨P.wb,P.wo+k * 5+2,N⟩=R (A px (wX (Q5 p k)).length cx)/\w.cell? ⟨P.wb,P.wo+k * 5+3,N⟩=R (A F (wL (Q5 p k)).length G)/\w.cell? ⟨P.wb,P.wo+k * 5+4,N⟩=R (A H (wC (Q5 p k)).length J))/\
   Ow (.slice Q4) w [A px (wX (Q5 p k)).length cx] (wX (Q5 p k)) B/\Ow (.slice Qu) w [A F (wL (Q5 p k)).length G] (wL (Q5 p k)) C/\Ow (.slice .int) w [A H (wC (Q5 p k)).length J] (wC (Q5 p k)) E/\(Qqm (wP (Q5 p k))/\Qqm (wV (Q5 p k)))/\
   P.Fw.getD k []=B++(C++E)/\(B++(C++E)).Nodup/\(∀b∈B++(C++E),b∈P.all/\b≠pb/\b≠P.wb/\b∉P.S.all):=by
 obtain⟨us,f,V,O⟩:=h.wks.cell k M;rw[<-Q95 M]at O;obtain⟨px,cx,F,G,H,J,B,C,E,rfl,L,W,X,Y,a,c⟩:=O.worker;obtain⟨T,g⟩:=h.ap;have i:=h.wks.len;have U:=Ar.1 h.wks.nodup;refine⟨px,cx,F,G,H,J,B,C,E,Q4b V,W,X,Y,⟨a,c⟩,L,L▸Qft U.2 (by omega),λb d=> ?_⟩;have K:b∈P.Fw.flatten:=Zu (by omega) (L▸d);exact⟨Af _ (Aa _ K),(T b (Aa _ K)).1,λe=>U.1 (e▸K),(T b (Aa _ K)).2⟩
end
theorem Q1p{p:J9}{k j:Nat}{y:Qqb}(B:k<(pW p).length):Q5 (Vt p k y) j=if k=j then y else Q5 p j:=by
 unfold Q5 Vt pW;rw[Ab,Ab,List.getElem?_set];split
 ·rename_i e;subst e;simp[show k<p.2.1.length from B]
 ·rfl
structure Qy (w0:Bh) (P0:PS) (pb po:Nat) (w:Bh) (p:J9) (P:PS):Prop where
 pool:Zj w pb po p P
 fresh:P.wb=P0.wb/\P.wo=P0.wo/\∀b∈P.all,b∈P0.all\/w0.heap.size<=b
 fr:Q1 (λc=>c=pb\/c∈P0.all) w0 w
section
variable {w0 w w':Bh} {pb po:Nat} {p p':J9} {P0 P P':PS}
theorem Qy.start(h:Zj w pb po p P):Qy w P pb po w p P:=⟨h,⟨rfl,rfl,λ_ h=> .inl h⟩,Q1.refl _ _⟩
theorem Qy.trans(h:Qy w0 P0 pb po w p P)(E:pb<w0.heap.size)(k:Qy w P pb po w' p' P'):Qy w0 P0 pb po w' p' P':=by
 refine⟨k.pool,⟨k.fresh.1.trans h.fresh.1,k.fresh.2.1.trans h.fresh.2.1,λb B=> ?_⟩,⟨k.fr.os.trans h.fr.os,k.fr.tape.trans h.fr.tape,k.fr.output.trans h.fr.output,Au h.fr.size k.fr.size,λb B hX=> ?_⟩⟩
 ·rcases k.fresh.2.2 b B with B|B
  ·exact h.fresh.2.2 b B
  ·exact .inr (Au h.fr.size B)
 ·rw[k.fr.block b (Ap B h.fr.size) (λC=>hX ?_)]
  ·exact h.fr.block b B hX
  ·rcases C with e|e
   ·exact .inl e
   ·exact(h.fresh.2.2 b e).elim .inr λe=>by omega
theorem Qy.other{Y:Nat->Prop}(h:Qy w0 P0 pb po w p P)(B:Q1 Y w w')(F:∀c,Y c->c∉pb::P.all/\w0.heap.size<=c):Qy w0 P0 pb po w' p P:=
 ⟨h.pool.frame B λb C E=>(F b E).1 C,h.fresh,⟨B.os.trans h.fr.os,B.tape.trans h.fr.tape,B.output.trans h.fr.output,Au h.fr.size B.size,λb C hX=>by rw[B.block b (Ap C h.fr.size) (λE=>by have:=(F b E).2;omega)];exact h.fr.block b C hX⟩⟩
theorem Qy.below(h:Qy w0 P0 pb po w p P)(B:Below w.heap.size w w'):Qy w0 P0 pb po w' p P:=h.other (Y:=λ_=>False) (Ay B) (λ_ h=>h.elim)
theorem Qy.drew(h:Qy w0 P0 pb po w p P):Qy w0 P0 pb po w.drew p P:=h.other (Y:=λ_=>False) (Q1.refl _ _).drew (λ_ h=>h.elim)
theorem Qy.next(h:Qy w0 P0 pb po w p P)(B:pb<w0.heap.size)(k:Zj w' pb po p' P')(C:Q1 (λc=>c=pb\/c∈P.all) w w')(E:P'.wb=P.wb/\P'.wo=P.wo/\∀b∈P'.all,b∈P.all\/w.heap.size<=b):Qy w0 P0 pb po w' p' P':=h.trans B ⟨k,E,C⟩
theorem PS.all_put{k b:Nat}{G:List Nat}(h:b∈(P.putW k G).all):b∈G\/b∈P.all:=by
 unfold PS.all PS.putW at *
 rw[At0,Aq]at h;rw[At0,Aq];rcases h with h|h|h
 ·exact .inr (.inl h)
 ·exact .inr (.inr (.inl h))
 ·rcases Yv h with h|⟨j,hj,_,h⟩
  ·exact .inl h
  ·exact .inr (.inr (.inr (Zu hj h)))
theorem Zj.ofMem{C:Qqp}{S':MS}{E:List Nat}(h:Zj w pb po p P)(k:Qk w P.S pb po w' C S' E):Qy w P pb po w' (C,pW p,pA p) {P with S:=S'}:=
 ⟨h.memStep k.mem k.fr k.keep k.fresh.2.2.2,⟨rfl,rfl,λb B=>by
  rcases At0.1 B with B|B
  ·exact(k.fresh.2.2.2 b B).imp (Ag _) id
  ·exact .inl (Af _ B)⟩,k.fr.mono λc F=>F.imp id (Ag _)⟩
theorem Zj.stM{C:Qqp}{S':MS}(h:Zj w pb po p P)(G:Z8 w' pb po C S')(E:Q1 (λc=>c=pb\/c∈P.S.all) w w')(H:Q9 pb po 5 w w')(F:∀b∈S'.all,b∈P.S.all\/w.heap.size<=b):Qy w P pb po w' (C,pW p,pA p) {P with S:=S'}:=
 ⟨h.memStep G E H F,⟨rfl,rfl,λb B=>by
  rcases At0.1 B with B|B
  ·exact(F b B).imp (Ag _) id
  ·exact .inl (Af _ B)⟩,E.mono λc J=>J.imp id (Ag _)⟩
theorem Zj.stA(h:Zj w pb po p P){a:Int}(B:Qqm a):Qy w P pb po (w.setCell ⟨pb,po+6,N⟩ (I Z a)) (pM p,pW p,a) P:=
 ⟨h.setA B,⟨rfl,rfl,λ_ h=> .inl h⟩,(Ze _ _ _ _).mono λc C=> .inl C⟩
theorem PS.wb_all:P.wb∈P.all:=Af _ Ae
theorem Zj.set1(h:Zj w pb po p P){k:Nat}(W:k<(pW p).length)(q:Nat)(i:P.wo+k * 5<=q/\q<P.wo+k * 5+5){v J K L M O:Bk}{y:Qqb}{G:List Nat}{w2:Bh}(X:Nat->Prop)(hX:∀c,X c->c∈P.Fw.getD k [])(E:Q1 X w w2)
  (Y:Qqw (w2.setCell ⟨P.wb,q,N⟩ v) P.wb (P.wo+k * 5) [J,K,L,M,O]) (S:Ow Qc w2 [J,K,L,M,O] y G) (a:G.Nodup) (F:∀b∈G,b∈P.Fw.getD k []\/w.heap.size<=b):Qy w P pb po (w2.setCell ⟨P.wb,q,N⟩ v) (Vt p k y) (P.putW k G):=by
 have j:=h.wks.len;have T:=Ar.1 h.wks.nodup;have H:∀b∈P.Fw.getD k [],b∈P.Fw.flatten:=λb B=>Zu (by omega) B;have d:¬X P.wb:=λe=>T.1 (H _ (hX _ e));have f1:=Ze w2 P.wb q v;have U:=h.lt;have l:P.wb<w.heap.size:=U P.wb (Aa _ PS.wb_all);have V:∀b∈P.Fw.getD k [],b∈P.all:=λb B=>Af _ (Aa _ (H b B));have f:∀b∈G,b≠P.wb:=λb B e=>(F b B).elim (λx=>T.1 (e▸H b x)) λx=>by omega
 refine⟨h.turnW W ((E.mono λc C=> .inr (hX c C)).trans (f1.mono λc C=> .inl C)) ((Q9.of_frame E d _ _).set q (by omega) v) Y (S.frame f1 λb B=>⟨S.lt b B,f b B⟩) a λb B=>(F b B).imp id λx g=>by have:=U b g;omega,⟨rfl,rfl,λb B=> ?_⟩,(E.mono λc C=> .inr (V c (hX c C))).trans (f1.mono λc C=> .inr (C▸PS.wb_all))⟩;rcases PS.all_put B with B|B
 ·exact(F b B).imp (V b) id
 ·exact .inl B
theorem Q6v{b o q:Nat}{v C E F G H:Bk}(K:w.cell? ⟨b,o,N⟩=R C)(L:w.cell? ⟨b,o+1,N⟩=R E)(M:w.cell? ⟨b,o+2,N⟩=R F)(O:w.cell? ⟨b,o+3,N⟩=R G)(P:w.cell? ⟨b,o+4,N⟩=R H):
  Qqw (w.setCell ⟨b,q,N⟩ v) b o [if q=o then v else C,if q=o+1 then v else E,if q=o+2 then v else F,if q=o+3 then v else G,if q=o+4 then v else H]:=by
 have B:∀ {j:Nat} {u:Bk},w.cell? ⟨b,j,N⟩=R u->(w.setCell ⟨b,q,N⟩ v).cell? ⟨b,j,N⟩=R (if q=j then v else u):=λ{j u} J=>by
  split
  ·rename_i e;subst e;exact Bw _ _ _ J
  ·rename_i e
   rw[World.cell?_setCell_other _ _ _ _ (by intro S;simp only[Addr.mk.injEq,and_true,true_and]at S;omega)];exact J
 exact Q11 (B K) (B L) (B M) (B O) (B P)
theorem Zj.stP(h:Zj w pb po p P){k:Nat}(B:k<(pW p).length){v:Int}(E:Qqm v):∃P',Qy w P pb po (w.setCell ⟨P.wb,P.wo+k * 5,N⟩ (I Z v)) (Vt p k (J7 (Q5 p k) v)) P':=by
 obtain⟨px,cx,W,X,Y,a,c,d,e,⟨F,G,H,J,K⟩,L,M,O,⟨f,S⟩,T,U,g⟩:=h.focus B;have C:=Q6v (q:=P.wo+k * 5) (v:=I Z v) F G H J K;simp at C;exact⟨_,h.set1 B (P.wo+k * 5) (by omega) (λ_=>False) (λ_ h=>h.elim) (Q1.refl _ _) C (Ow.mkWorker E S L M O) U λb V=> .inl (T▸V)⟩
theorem Zj.stV(h:Zj w pb po p P){k:Nat}(B:k<(pW p).length){v:Int}(E:Qqm v):∃P',Qy w P pb po (w.setCell ⟨P.wb,P.wo+k * 5+1,N⟩ (I Z v)) (Vt p k (Q5c (Q5 p k) v)) P':=by
 obtain⟨px,cx,W,X,Y,a,c,d,e,⟨F,G,H,J,K⟩,L,M,O,⟨S,f⟩,T,U,g⟩:=h.focus B;have C:=Q6v (q:=P.wo+k * 5+1) (v:=I Z v) F G H J K;simp at C;exact⟨_,h.set1 B (P.wo+k * 5+1) (by omega) (λ_=>False) (λ_ h=>h.elim) (Q1.refl _ _) C (Ow.mkWorker S E L M O) U λb V=> .inl (T▸V)⟩
def Q7e(x:Qqb)(ls:List Qqt):Qqb:=(wP x,wV x,wX x,ls,wC x)
def Qo4(x:Qqb)(cs:List Int):Qqb:=(wP x,wV x,wX x,wL x,cs)
theorem Zj.focR(h:Zj w pb po p P){k:Nat}(T:k<(pW p).length):
  ∃(px:Option Cm) (cx:Nat) (C:List Nat),w.cell? ⟨P.wb,P.wo+k * 5+2,N⟩=R (A px (wX (Q5 p k)).length cx)/\Ow (.slice Q4) w [A px (wX (Q5 p k)).length cx] (wX (Q5 p k)) C/\C.Nodup/\(∀b∈C,b∈P.all/\b≠pb/\b≠P.wb/\b∉P.S.all)/\
   ∀(w2:Bh) (H:Option Cm) (J E:Nat) (xs:List Wd) (F:List Nat),Q1 (λb=>b∈C) w w2->Ow (.slice Q4) w2 [A H J E] xs F->F.Nodup->(∀b∈F,b∈C\/w.heap.size<=b)->
    ∃P',Qy w P pb po (w2.setCell ⟨P.wb,P.wo+k * 5+2,N⟩ (A H J E)) (Vt p k (J0 (Q5 p k) xs)) P':=by
 obtain⟨px,cx,pl,cl,pc,cc,C,X,Y,⟨d,f,E,g,i⟩,j,U,K,⟨l,m⟩,M,n,O⟩:=h.focus T;have G:=Qqn n;refine⟨px,cx,C,E,j,G.1,λb B=>O b (Ag _ B),λw2 H J o xs F L r s V=> ?_⟩;have t:P.wb<w.heap.size:=h.lt P.wb (Aa _ PS.wb_all);have u:P.wb∉C:=λe=>(O _ (Ag _ e)).2.2.1 rfl;have kk:=λq=>L.cell t u q;have W:=Q6v (q:=P.wo+k * 5+2) (v:=A H J o) ((kk _).trans d) ((kk _).trans f) ((kk _).trans E) ((kk _).trans g) ((kk _).trans i);simp at W;have y:∀b∈X++Y,b∉F:=λb B e=>(V b e).elim (λx=>G.2.2 b x B) λx=>by have:=h.lt b (Aa _ (O b (Af _ B)).1);omega
 refine⟨_,h.set1 T (P.wo+k * 5+2) (by omega) (λb=>b∈C) (λc K=>M▸Ag _ K) L W (Ow.mkWorker l m r (U.frame L λb B=>⟨U.lt b B,λe=>G.2.2 b e (Ag _ B)⟩) (K.frame L λb B=>⟨K.lt b B,λe=>G.2.2 b e (Af _ B)⟩)) ?_ λb B=> ?_⟩
 ·rw[Ba];exact⟨s,G.2.1,λa z b B e=>y b B (e▸z)⟩
 ·rcases At0.1 B with B|B
  ·exact(V b B).imp (λx=>M▸Ag _ x) id
  ·exact .inl (M▸Af _ B)
theorem Zj.focL(h:Zj w pb po p P){k:Nat}(X:k<(pW p).length):
  ∃(px:Option Cm) (cx:Nat) (E:List Nat),w.cell? ⟨P.wb,P.wo+k * 5+3,N⟩=R (A px (wL (Q5 p k)).length cx)/\Ow (.slice Qu) w [A px (wL (Q5 p k)).length cx] (wL (Q5 p k)) E/\E.Nodup/\(∀b∈E,b∈P.all/\b≠pb/\b≠P.wb/\b∉P.S.all)/\
   (∀(w2:Bh) (O:Option Cm) (F K:Nat) (xs:List Qqt) (L:List Nat),Q1 (λb=>b∈E) w w2->Ow (.slice Qu) w2 [A O F K] xs L->L.Nodup->(∀b∈L,b∈E\/w.heap.size<=b)->
    ∃P',Qy w P pb po (w2.setCell ⟨P.wb,P.wo+k * 5+3,N⟩ (A O F K)) (Vt p k (Q7e (Q5 p k) xs)) P')/\
   (∀(w2:Bh) (xs:List Qqt),Q1 (λb=>b∈E) w w2->Ow (.slice Qu) w2 [A px (wL (Q5 p k)).length cx] xs E->∃P',Qy w P pb po w2 (Vt p k (Q7e (Q5 p k) xs)) P'):=by
 obtain⟨px,cx,pl,cl,pc,cc,E,M,g,⟨i,j,K,Y,l⟩,T,hl,G,⟨m,n⟩,H,o,U⟩:=h.focus X;have J:=Qqn o;have F:=Qqn J.2.1;have r:P.wb<w.heap.size:=h.lt P.wb (Aa _ PS.wb_all);have d:P.wb∉M:=λe=>(U _ (Af _ (Ag _ e))).2.2.1 rfl;have V:∀b∈M,b∈P.Fw.getD k []:=λb B=>H▸Af _ (Ag _ B);refine⟨pl,cl,M,Y,hl,F.1,λb B=>U b (Af _ (Ag _ B)),λw2 O A0 d2 xs L C f hF s=> ?_,λw2 xs C f=> ?_⟩
 ·have kk:=λq=>C.cell r d q
  have t:=Q6v (q:=P.wo+k * 5+3) (v:=A O A0 d2) ((kk _).trans i) ((kk _).trans j) ((kk _).trans K) ((kk _).trans Y) ((kk _).trans l);simp at t;have u:∀b,b∈E\/b∈g->b∉L:=λb B e=>(s b e).elim (λx=>B.elim (λy=>J.2.2 b y (Ag _ x)) λy=>F.2.2 b x y) λx=>by have:=h.lt b (Aa _ (U b (B.elim (Ag _) λy=>Af _ (Af _ y))).1);omega
  refine⟨_,h.set1 X (P.wo+k * 5+3) (by omega) (λb=>b∈M) V C t (Ow.mkWorker m n (T.frame C λb B=>⟨T.lt b B,λe=>J.2.2 b B (Ag _ e)⟩) f (G.frame C λb B=>⟨G.lt b B,λe=>F.2.2 b e B⟩)) ?_ λb B=> ?_⟩
  ·rw[Ba,Ba]
   exact⟨J.1,⟨hF,F.2.1,λa W b B e=>u b (.inr B) (e▸W)⟩,λa W b B e=>(At0.1 B).elim (λy=>u a (.inl W) (e▸y)) λy=>J.2.2 a W (Af _ (e▸y))⟩
  ·rcases At0.1 B with B|B
   ·exact .inl (H▸Ag _ B)
   ·rcases At0.1 B with B|B
    ·exact(s b B).imp (V b) id
    ·exact .inl (H▸Af _ (Af _ B))
 ·have kk:=λq=>C.cell r d q
  have z:∀b∈P.Fw.getD k [],b∈P.all:=λb B=>(U b (H▸B)).1;refine⟨P.putW k (E++(M++g)),h.turnW X (C.mono λc G=> .inr (V c G)) (Q9.of_frame C d _ _) (Q11 ((kk _).trans i) ((kk _).trans j) ((kk _).trans K) ((kk _).trans Y) ((kk _).trans l)) (Ow.mkWorker m n (T.frame C λb B=>⟨T.lt b B,λe=>J.2.2 b B (Ag _ e)⟩) f (G.frame C λb B=>⟨G.lt b B,λe=>F.2.2 b e B⟩)) o (λb B=> .inl (H▸B)),⟨rfl,rfl,λb B=> ?_⟩,C.mono λc G=> .inr (z c (V c G))⟩;rcases PS.all_put B with B|B
  ·exact .inl (z b (H▸B))
  ·exact .inl B
end
section
variable {w0 w w':Bh} {pb po:Nat} {p p':J9} {P0 P P':PS}
theorem Qy.setL(h:Qy w0 P0 pb po w p P)(hp:pb<w0.heap.size){k:Nat}(Y:k<(pW p).length){E:Option Cm}{G H:Nat}{xs:List Qqt}{C:List Nat}(K:Ow (.slice Qu) w [A E G H] xs C)(m:C.Nodup)(L:∀b∈C,w0.heap.size<=b/\b∉pb::P.all):
  ∃P',Qy w0 P0 pb po (w.setCell ⟨P.wb,P.wo+k * 5+3,N⟩ (A E G H)) (Vt p k (Q7e (Q5 p k) xs)) P'/\P'.wb=P.wb/\P'.wo=P.wo/\P'.S=P.S/\∀b∈P'.all,b∈P.all\/b∈C:=by
 obtain⟨px,cx,pl,cl,pc,cc,O,d,T,⟨n,o,r,s,u⟩,z,hl,U,⟨i0,i1⟩,V,hN,J⟩:=h.pool.focus Y;have W:=Qqn hN;have n2:=Qqn W.2.1;have f:=Q6v (q:=P.wo+k * 5+3) (v:=A E G H) n o r s u;simp at f;have f1:=Ze w P.wb (P.wo+k * 5+3) (A E G H);have g:∀b∈O++(d++T),b≠P.wb:=λb B=>(J b B).2.2.1;have A2:∀b∈P.Fw.getD k [],b∈P.all:=λb B=>(J b (V▸B)).1;have i:∀b∈O++(d++T),b∉C:=λb B e=>(L b e).2 (Aa _ (J b B).1);have A0:∀b∈C,b≠P.wb:=λb B e=>(L b B).2 (e▸Aa _ PS.wb_all);have X:∀ {t:Ty} {vs:List Bk} {x:t.den} {F:List Nat},Ow t w vs x F->(∀b∈F,b≠P.wb)->Ow t (w.setCell ⟨P.wb,P.wo+k * 5+3,N⟩ (A E G H)) vs x F:=λK B=>K.frame f1 λb j=>⟨K.lt b j,B b j⟩
 have A1:=h.pool.turnW Y (f1.mono λc U=> .inl U) ((Q9.refl _ _ _ _).set (P.wo+k * 5+3) (by omega) (A E G H)) f
  (Ow.mkWorker i0 i1 (X z λb B=>g b (Ag _ B)) (X K A0) (X U λb B=>g b (Af _ (Af _ B))))
  (by rw[Ba,Ba];exact⟨W.1,⟨m,n2.2.1,λa M b B e=>i b (Af _ (Af _ B)) (e▸M)⟩,λa M b B e=>(At0.1 B).elim (λy=>i a (Ag _ M) (e▸y)) λy=>W.2.2 a M (Af _ (e▸y))⟩)
  (λb B=>by
   rcases At0.1 B with B|B
   ·exact .inl (V▸Ag _ B)
   ·rcases At0.1 B with B|B
    ·exact .inr (L b B).2
    ·exact .inl (V▸Af _ (Af _ B)))
 have l:∀b∈(P.putW k (O++(C++T))).all,b∈P.all\/b∈C:=λb B=>by
  rcases PS.all_put B with B|B
  ·rcases At0.1 B with B|B
   ·exact .inl (J b (Ag _ B)).1
   ·rcases At0.1 B with B|B
    ·exact .inr B
    ·exact .inl (J b (Af _ (Af _ B))).1
  ·exact .inl B
 refine⟨_,⟨A1,⟨h.fresh.1,h.fresh.2.1,λb B=> ?_⟩,⟨f1.os.trans h.fr.os,f1.tape.trans h.fr.tape,f1.output.trans h.fr.output,Au h.fr.size f1.size,λb B hX=> ?_⟩⟩,rfl,rfl,rfl,l⟩
 ·exact(l b B).elim (λB=>h.fresh.2.2 b B) λB=> .inr (L b B).1
 ·rw[f1.block b (Ap B h.fr.size) (λe=>hX (.inr ?_))]
  ·exact h.fr.block b B hX
  ·rcases h.fresh.2.2 P.wb PS.wb_all with x|x
   ·exact e▸x
   ·omega
theorem Qy.setN(h:Qy w0 P0 pb po w p P)(hp:pb<w0.heap.size){k:Nat}(S:k<(pW p).length){i:Nat}(T:i<(wC (Q5 p k)).length):
  ∃(C E M:Nat),w.cell? ⟨P.wb,P.wo+k * 5+4,N⟩=R (A (R ⟨C,E,N⟩) (wC (Q5 p k)).length M)/\w.cell? ⟨C,E+i,N⟩=R (I Z ((wC (Q5 p k)).getD i 0))/\(∀q,w.frozen? ⟨C,q,N⟩=false)/\
   ∀v,Qqm v->∃P',Qy w0 P0 pb po (w.setCell ⟨C,E+i,N⟩ (I Z v)) (Vt p k (Qo4 (Q5 p k) ((wC (Q5 p k)).set i v))) P'/\P'.wb=P.wb/\P'.wo=P.wo:=by
 obtain⟨px,cx,pl,cl,pc,M,Gx,Gl,Gc,⟨n,o,r,s,U⟩,u,z,H,⟨i0,i1⟩,J,V,W⟩:=h.pool.focus S;have X:=Qqn V;have Y:=Qqn X.2.1;obtain⟨C,E,us,G,rfl,K,A5,A6,A7,A8,A9,A0,A1,a,A2⟩:=H.focus Y.2.1 i T;have A3:=Jt (t:=.int) rfl a;subst A3;obtain⟨rfl,AA,-⟩:us=[I Z (wC (Q5 p k))[i]]/\Qqm (wC (Q5 p k))[i]/\True:=by obtain⟨e1,e2,-⟩:=a;exact⟨e1,e2,trivial⟩
 have O:=Qac A0;simp only[Ty.sz,Nat.mul_one]at O;refine⟨C,E,M,U,by rw[Ab,Ad T];exact O,A1,λv hv=> ?_⟩;have f1:=Ze w C (E+i) (I Z v);have d:=W C (Af _ (Af _ K));have kk:∀q,(w.setCell ⟨C,E+i,N⟩ (I Z v)).cell? ⟨P.wb,q,N⟩=w.cell? ⟨P.wb,q,N⟩:=λq=>f1.cell (h.pool.lt P.wb (Aa _ PS.wb_all)) (λe=>d.2.2.1 e.symm) q;have L:=A2 _ [I Z v] v (f1.mono λc H=> .inl H) (by simpa[Ty.sz]using(Q9.refl C (E+i) 1 w).set (E+i) (by omega) (I Z v)) (by
  intro j hj;obtain rfl:j=0:=by simpa using hj
  simpa[Ty.sz]using Bw _ _ (I Z v) O) ⟨rfl,hv,rfl⟩
 have f:∀ {t:Ty} {vs:List Bk} {x:t.den} {F:List Nat},Ow t w vs x F->(∀b∈F,b≠C)->Ow t (w.setCell ⟨C,E+i,N⟩ (I Z v)) vs x F:=λL B=>L.frame f1 λb g=>⟨L.lt b g,B b g⟩;have l:∀b∈P.Fw.getD k [],b∈P.all:=λb B=>(W b (J▸B)).1;have m:C∈P.Fw.getD k []:=J▸Af _ (Af _ K)
 have A4:=h.pool.turnW S (y:=Qo4 (Q5 p k) ((wC (Q5 p k)).set i v)) (f1.mono λc H=> .inr (H▸m)) (Q9.of_frame f1 (λe=>d.2.2.1 e.symm) _ _) (Q11 ((kk _).trans n) ((kk _).trans o) ((kk _).trans r) ((kk _).trans s) ((kk _).trans U))
  (Ow.mkWorker i0 i1 (f u λb B e=>X.2.2 b B (Af _ (e▸K))) (f z λb B e=>Y.2.2 b B (e▸K)) L) V (λb B=> .inl (J▸B))
 refine⟨_,⟨A4,⟨h.fresh.1,h.fresh.2.1,λb B=> ?_⟩,⟨f1.os.trans h.fr.os,f1.tape.trans h.fr.tape,f1.output.trans h.fr.output,Au h.fr.size f1.size,λb B hX=> ?_⟩⟩,rfl,rfl⟩
 ·exact(PS.all_put B).elim (λB=>h.fresh.2.2 b (l b (J▸B))) λB=>h.fresh.2.2 b B
 ·rw[f1.block b (Ap B h.fr.size) (λe=>hX (.inr ?_))]
  ·exact h.fr.block b B hX
  ·rcases h.fresh.2.2 C (l C m)with x|x
   ·exact e▸x
   ·omega
theorem Qy.noX(h:Qy w0 P0 pb po w p P):∃P',Qy w0 P0 pb po (w.setCell ⟨pb,po+4,N⟩ (A N 0 0)) ((mC (pM p),mF (pM p),mR (pM p),[]),pW p,pA p) P'/\P'.wb=P.wb/\P'.wo=P.wo/\∀b∈P'.all,b∈P.all:=by
 have f1:=Ze w pb (po+4) (A N 0 0);obtain⟨_,_,_,_,_,_,H,_⟩:=h.pool.mem.head;have E:Q9 pb (po+4) 1 w (w.setCell ⟨pb,po+4,N⟩ (A N 0 0)):=(Q9.refl _ _ _ _).set (po+4) (by omega) _;have J:=h.pool.mem.turnX (xs:=[]) (px:=N) (cx:=0) (Fx:=[]) (f1.mono λc C=> .inl C) E (Bw _ _ _ H) (Ow.nil _) (by simp) (by simp);have F:∀b∈({P.S with Fx:=[]}:MS).all,b∈P.S.all:=λb B=>by unfold MS.all at B⊢;simp only[List.mem_cons,List.append_nil,List.mem_append]at B⊢;exact B.elim .inl λh=> .inr (.inl h)
 have K:=h.pool.memStep J (f1.mono λc C=> .inl C) (E.wide (by omega) (by omega)) λb B=> .inl (F b B);have G:∀b∈({P with S:= {P.S with Fx:=[]}}:PS).all,b∈P.all:=λb B=>by
  rcases At0.1 B with B|B
  ·exact Ag _ (F b B)
  ·exact Af _ B
 exact⟨_,⟨K,⟨h.fresh.1,h.fresh.2.1,λb B=>h.fresh.2.2 b (G b B)⟩,h.fr.trans (f1.mono λc C=> .inl C)⟩,rfl,rfl,G⟩
theorem Zj.at(h:Zj w pb po p P):At Qr w pb po p:=by
 obtain⟨cs,C,E,F⟩:=h.mem.at;have B:cs.length=5:=C;refine⟨cs++([_]++ [_]),by rw[List.length_append,B];rfl,Qqw.join E (by rw[B];exact Q5g h.c5 h.c6),cs,_,rfl,F,[_],_,rfl,h.wks.rd,⟨rfl,h.i64⟩⟩
theorem Qy.stP(h:Qy w0 P0 pb po w p P)(C:pb<w0.heap.size){k:Nat}(E:k<(pW p).length){v:Int}(F:Qqm v):∃P',Qy w0 P0 pb po (w.setCell ⟨P0.wb,P0.wo+k * 5,N⟩ (I Z v)) (Vt p k (J7 (Q5 p k) v)) P':=by
 obtain⟨P',B⟩:=h.pool.stP E F;rw[h.fresh.1,h.fresh.2.1]at B;exact⟨P',h.trans C B⟩
theorem Qy.stV(h:Qy w0 P0 pb po w p P)(C:pb<w0.heap.size){k:Nat}(E:k<(pW p).length){v:Int}(F:Qqm v):∃P',Qy w0 P0 pb po (w.setCell ⟨P0.wb,P0.wo+k * 5+1,N⟩ (I Z v)) (Vt p k (Q5c (Q5 p k) v)) P':=by
 obtain⟨P',B⟩:=h.pool.stV E F;rw[h.fresh.1,h.fresh.2.1]at B;exact⟨P',h.trans C B⟩
theorem Qy.stA(h:Qy w0 P0 pb po w p P)(B:pb<w0.heap.size){a:Int}(C:Qqm a):Qy w0 P0 pb po (w.setCell ⟨pb,po+6,N⟩ (I Z a)) (pM p,pW p,a) P:=h.trans B (h.pool.stA C)
theorem Qy.focR(h:Qy w0 P0 pb po w p P)(O:pb<w0.heap.size){k:Nat}(S:k<(pW p).length):
  ∃(px:Option Cm) (cx:Nat) (C:List Nat),w.cell? ⟨P0.wb,P0.wo+k * 5+2,N⟩=R (A px (wX (Q5 p k)).length cx)/\Ow (.slice Q4) w [A px (wX (Q5 p k)).length cx] (wX (Q5 p k)) C/\(∀b∈C,b≠P0.wb)/\(wX (Q5 p k)).length<=cx/\
   ∀(w2:Bh) (E:Option Cm) (F G:Nat) (xs:List Wd) (B:List Nat),Q1 (λ_=>False) w w2->Ow (.slice Q4) w2 [A E F G] xs B->B.Nodup->(∀b∈B,w.heap.size<=b)->
    ∃P',Qy w0 P0 pb po (w2.setCell ⟨P0.wb,P0.wo+k * 5+2,N⟩ (A E F G)) (Vt p k (J0 (Q5 p k) xs)) P':=by
 obtain⟨px,cx,C,c,K,d,T,U⟩:=h.pool.focR S;have H:=h.fresh.1;have L:=h.fresh.2.1;refine⟨px,cx,C,by rw[<-H,<-L];exact c,K,λb J=>by rw[<-H];exact(T b J).2.2.1, ?_,λw2 E F G xs B V W X Y=> ?_⟩
 ·obtain⟨_,_,a,e,_⟩:=J6 K.rd
  simp only[List.cons.injEq,Value.slice.injEq,and_true]at a;omega
 ·obtain⟨P',M⟩:=U w2 E F G xs B (V.mono λ_ h=>h.elim) W X λb J=> .inr (Y b J)
  rw[H,L]at M;exact⟨P',h.trans O M⟩
theorem Qy.cells(h:Qy w0 P0 pb po w p P){k:Nat}(M:k<(pW p).length):(∃C,w.cell? ⟨pb,po+5,N⟩=R (A (R ⟨P0.wb,P0.wo,N⟩) (pW p).length C)/\(pW p).length<=C)/\w.cell? ⟨pb,po+6,N⟩=R (I Z (pA p))/\
  (w.cell? ⟨P0.wb,P0.wo+k * 5,N⟩=R (I Z (wP (Q5 p k)))/\w.cell? ⟨P0.wb,P0.wo+k * 5+1,N⟩=R (I Z (wV (Q5 p k)))/\(∃px cx,w.cell? ⟨P0.wb,P0.wo+k * 5+2,N⟩=R (A px (wX (Q5 p k)).length cx))/\∃E F,w.cell? ⟨P0.wb,P0.wo+k * 5+3,N⟩=R (A E (wL (Q5 p k)).length F))/\
  (∀q,w.frozen? ⟨P0.wb,q,N⟩=false)/\(∀q,w.frozen? ⟨pb,q,N⟩=false)/\P0.wb<w.heap.size/\pb<w.heap.size/\pb≠P0.wb:=by
 obtain⟨px,cx,E,F,S,T,U,V,W,⟨G,H,J,K,X⟩,-⟩:=h.pool.focus M;have B:=h.fresh.1;have O:=h.fresh.2.1;have L:=h.pool.c5;rw[B,O]at G H J K L;refine⟨⟨_,L,h.pool.wks.bound.1⟩,h.pool.c6,⟨G,H,⟨_,_,J⟩,_,_,K⟩,λq=> ?_,λq=>h.pool.mem.blk.free q, ?_,h.pool.mem.blk.lt,λe=> ?_⟩
 ·rw[<-B];exact h.pool.wks.blk.free q
 ·rw[<-B];exact h.pool.wks.blk.lt
 ·exact(h.pool.ap.1 P.wb Ae).1 (by rw[B];exact e.symm)
end
def Q8y(bk:List Qr2)(x:Qb)(n:Nat):Prop:=(0<=aV x/\aV x<bk.length)/\Ys (Y4 bk (aV x))=Bn/\(0<=aL x/\aL x<=8)/\(Y4 bk (aV x)).length+(Zv (Y4 bk (aV x))).length<=n+2
theorem Q7h{B:Qqp}{ws:List Qqb}{a:Int}{k:Nat}{y:Qqb}(C:k<ws.length):Q5 (B,ws.set k y,a) k=y:=by
 unfold Q5 pW;rw[Ab,List.getElem?_set_self (by exact C)];rfl
theorem Qf6{B:Qqp}{ws:List Qqb}{a:Int}{k:Nat}{y z:Qqb}:Vt (B,ws.set k y,a) k z=(B,ws.set k z,a):=by
 unfold Vt;simp only[pM,pW,pA,List.set_set]
theorem Qmv{w:Qqb}(h:0<(wX w).length):Ya w∈wX w:=by
 unfold Ya;rw[Ab,Ad (by omega)];exact As _
theorem Qfv{p:J9}{k:Nat}(B:k<(pW p).length){r:Wd}(h:r∈wX (Q5 p k)):r∈Qz (pW p):=by
 unfold Qz;rw[List.mem_flatMap];exact⟨Q5 p k,by rw[Q95 B];exact As _,h⟩
theorem Qb8:∀(l:List Nat) {n:Nat},n∈l->n<=l.sum
 |a::r,n,h=>by
  rw[Fp];rcases Aq.1 h with rfl|h
  ·omega
  ·have:=Qb8 r h;omega
theorem Q9h{p:J9}{k:Nat}(B:k<(pW p).length):(wX (Q5 p k)).length<=(Qz (pW p)).length:=by
 unfold Qz;rw[Hz,Q95 B];exact Qb8 _ (List.mem_map.2 ⟨(pW p)[k],As _,rfl⟩)
theorem Rd.init{e:Ty}{w:Bh}{p:Option Cm}{n c m:Nat}{xs:List e.den}(h:Rd (.slice e) w [A p n c] xs)(E:m<=n)(B:0<xs.length):Rd (.slice e) w [A p m c] (xs.take m:List e.den):=by
 obtain⟨v,F,h⟩:=h;obtain rfl:=List.cons.inj F|>.1;rcases h with⟨_,h⟩|⟨b,o,O,C,P,G,H⟩
 ·rw[h]at B;simp at B
 ·simp only[Value.slice.injEq]at C
  obtain⟨rfl,rfl,rfl⟩:=C;refine⟨_,rfl,.inr ⟨b,o,c,by rw[Cj,Nat.min_eq_left E],by rw[Cj];omega,G,λi J=> ?_⟩⟩;rw[Cj]at J;obtain⟨cs,K,L,M⟩:=H i (by omega);exact⟨cs,K,L,by rw[List.getElem_take];exact M⟩
structure Q9u (bk:List Qr2) (p:J9) (k:Nat) (l:List Nat):Prop where
 len:1<=(mC (pM p)).length/\(mC (pM p)).length<=1500
 free:Yf (pM p) l
 freeLen:l.length=Z3 (mC (pM p))
 small:∀i:Int,0<=i->i<(mC (pM p)).length->(aD (Q7 (mC (pM p)) i)).length<=4/\(aW (Q7 (mC (pM p)) i)).length<=3
 rok:Zx (mC (pM p)) (Ya (Q5 p k))=Bn
 cells:∀i,i<(mC (pM p)).length->Yg (Qn (mC (pM p)) i)=Bn
 nin:(Ya (Q5 p k)).1.toNat∉l/\(Ya (Q5 p k)).2.toNat∉l
 xlen:(wX (Q5 p k)).length<=1500
 mx:mX (pM p)=[]
 counts:(wC (Q5 p k)).length=7/\∀c∈wC (Q5 p k),0<=c/\c<=1000000000
theorem Qh3{p:J9}(bk:List Qr2){k:Nat}(h:Qrg p)(B:k<(pW p).length)(J:0<(wX (Q5 p k)).length):∃l,Q9u bk p k l:=by
 obtain⟨W,K,L,X,M⟩:=Q1d h;obtain⟨O,Y,F,a,P,b,S⟩:=Q4j M;obtain⟨l,f1,f2,f3⟩:=Qox S;have G:=P _ (Qfv B (Qmv J));obtain⟨⟨d,f,g⟩,T,U⟩:=Q05 G;have H:∀k,J5 k=Bn->k≠0:=λk B e=>by rw[e]at B;exact absurd B (by decide)
 have C:=L k B;unfold Zw at C;simp only[Bl]at C;obtain⟨⟨-,-,E,-⟩,-⟩:=C;unfold Q06 at E;simp only[Bl,beq_iff_eq]at E;refine⟨l,O,f1,f2,λi j m=>Qaz (F _ (by omega)),G,F,⟨f3 _ (H _ T),f3 _ (H _ U)⟩, ?_,K,⟨by omega,λc V=> ?_⟩⟩
 ·have:=Q9h B;omega
 ·exact Ql.1 (Bf.1 E.2 c V)
theorem Q73{bk:List Qr2}{p:J9}{k:Nat}{l:List Nat}(h:Q9u bk p k l)(F:Z4 (mC (pM p)) (Ya (Q5 p k))=7):(0<=aV (xM (mC (pM p)) (Ya (Q5 p k)))/\aV (xM (mC (pM p)) (Ya (Q5 p k)))<=23)/\0<=aL (xM (mC (pM p)) (Ya (Q5 p k)))/\aL (xM (mC (pM p)) (Ya (Q5 p k)))<=8:=by
 obtain⟨⟨P,S,T⟩,G,H⟩:=Q05 h.rok;have J:Yg (Q7 (mC (pM p)) (Ya (Q5 p k)).1)=Bn:=h.cells _ (by omega);have K:Yg (Q7 (mC (pM p)) (Ya (Q5 p k)).2)=Bn:=h.cells _ (by omega);have B:Yg (xM (mC (pM p)) (Ya (Q5 p k)))=Bn/\J5 (aK (xM (mC (pM p)) (Ya (Q5 p k))))=Bn:=by
  rcases Q3m (mC (pM p)) (Ya (Q5 p k))with⟨-,C,L⟩|⟨-,C,L⟩<;>rw[C]
  ·exact⟨J,G⟩
  ·exact⟨K,H⟩
 have E:=Q6y B.1 B.2;rcases Q5w h.cells h.rok with h8|⟨hr,he,-⟩
 ·omega
 ·rw[F]at he
  have M:=Q57 (ka:=aK (xM (mC (pM p)) (Ya (Q5 p k)))) (la:=aL (xM (mC (pM p)) (Ya (Q5 p k)))) (kb:=aK (yM (mC (pM p)) (Ya (Q5 p k)))) (lb:=aL (yM (mC (pM p)) (Ya (Q5 p k)))) (by rw[he];omega);rw[he]at M;have O:aK (xM (mC (pM p)) (Ya (Q5 p k)))=12:=by omega
  exact⟨E.2.2.2.2.2.2.2.2.2.1 O,E.2.2.2.2.2.2.2.2.2.2⟩
theorem Qot{α:Type}{f:Qqp×List Qqt->α->Qqp×List Qqt}(B:∀s a,mX (f s a).1=mX s.1):∀(l:List α) (s:Qqp×List Qqt),mX (l.foldl f s).1=mX s.1
 | [],_=>rfl
 |a::l,s=>by rw[Ce,Qot B l];exact B s a
theorem Qgm{α:Type}{f:Qqp->α->Qqp}(B:∀s a,mX (f s a)=mX s):∀(l:List α) (s:Qqp),mX (l.foldl f s)=mX s
 | [],_=>rfl
 |a::l,s=>by rw[Ce,Qgm B l];exact B s a
theorem Qgy{α:Type}{f:Qqp×Wd->α->Qqp×Wd}(B:∀s a,mX (f s a).1=mX s.1):∀(l:List α) (s:Qqp×Wd),mX (l.foldl f s).1=mX s.1
 | [],_=>rfl
 |a::l,s=>by rw[Ce,Qgy B l];exact B s a
theorem Qdb{α:Type}{f:Qqp->α->Qqp}(B:∀s a,(mX (f s a)).length=(mX s).length+1):∀(l:List α) (s:Qqp),(mX (l.foldl f s)).length=(mX s).length+l.length
 | [],_=>rfl
 |a::l,s=>by rw[Ce,Qdb B l,B s a,Bs];omega
theorem Q54(m:Qqp)(a b:Int):(mX (Yu m a b)).length=(mX m).length+1:=by simp[Yu,mX]
theorem Qcq(m:Qqp)(l:Int):∀n,mX (Jb m l n).1=mX m
 |0=>rfl
 |n+1=>Qcq m l n
theorem Q94(n:Qr2)(l:Int)(m:Qqp):∀j,mX (Q00 n l m j)=mX m
 |0=>rfl
 |j+1=>Q94 n l m j
theorem Qks(bk:List Qr2)(m:Qqp)(C a b:Int):(mX (Jf bk m C a b).1).length<=(mX m).length+1+(Yd (Y4 bk (aV (Q7 (mC m) a)))).length:=by
 unfold Jf;simp only;split
 ·unfold Vo
  simp only;have B:(mX (V5 (Vo.netOf' bk (aV (Q7 (mC m) a))) (aL (Q7 (mC m) a)) (1,b) (Qg m a)).1).length=(mX m).length+(Yd (Y4 bk (aV (Q7 (mC m) a)))).length:=by
   unfold V5;simp only;rw[Qdb (λs p=>Q54 _ _ _),Qgy]
   ·rw[Q94];rfl
   ·intro s w
    unfold Y7;simp only;repeat' split
    all_goals rfl
  split
  ·rw[Q54,B];omega
  ·rw[B];omega
 ·repeat' split
  ·show(mX m).length<=_;omega
  ·unfold Qd0
   simp only;rw[Qot (f:=Yr _ _ _) (λs p=>rfl)];show(mX m).length<=_;omega
  ·rw[Qot (f:=Yn) (λs p=>rfl)]
   show(mX m).length<=_;omega
  ·show(mX m).length<=_;omega
  ·unfold Vy
   simp only;split
   ·rw[Qcq];show(mX m).length<=_;omega
   ·rw[Q54,Qgm (f:=Yw _ _ _) (λs p=>rfl),Qcq]
    show(mX m).length+1<=_;omega
  ·show(mX m).length<=_;omega
def Q3k(bk:List Qr2)(p:J9)(k:Nat):J9:=if Q0k bk (pM p) (Q5 p k)=0 then((Qef bk (pM p) (Q5 p k)).1,(pW p).set k (Qef bk (pM p) (Q5 p k)).2,pA p)else p
theorem Qcl{cs:List Qb}{q0 q1:Int}(h:0<=q0/\q0<q1/\q1<cs.length)(l:List Nat)(B:q0.toNat∉l/\q1.toNat∉l):((0<=(Zl cs (q0,q1)).1/\(Zl cs (q0,q1)).1<cs.length)/\0<=(Zl cs (q0,q1)).2/\(Zl cs (q0,q1)).2<cs.length)/\(Zl cs (q0,q1)).1≠(Zl cs (q0,q1)).2/\(Zl cs (q0,q1)).1.toNat∉l/\(Zl cs (q0,q1)).2.toNat∉l:=by
 rcases Q3m cs (q0,q1)with⟨e,-,-⟩|⟨e,-,-⟩<;>rw[e]<;>simp only
 ·exact⟨by omega,by omega,B.1,B.2⟩
 ·exact⟨by omega,by omega,B.2,B.1⟩
theorem Qgv{bk:List Qr2}{cs:List Qb}{p:Wd}{n:Nat}(F:Z4 cs p=7)(B:(Zn bk cs p).2=0)(E:(0<=aV (xM cs p)/\aV (xM cs p)<=23)/\0<=aL (xM cs p)/\aL (xM cs p)<=8)(G:∀n∈bk,Ys n=Bn)(C:(Zn bk cs p).1<=n+1):Q8y bk (xM cs p) n:=by
 unfold Zn at B C;rw[F]at B C;simp only[Int.reduceBEq,Bool.false_eq_true,if_false,if_true]at B C;split at B
 ·simp at B
 ·rename_i H
  rw[if_neg H]at C;split at B
  ·simp at B
  ·rename_i J
   rw[if_neg J]at C;have K:(aV (xM cs p)).toNat<bk.length:=by omega
   have L:Y4 bk (aV (xM cs p))=bk[(aV (xM cs p)).toNat]:=by unfold Y4;rw[Ab,Ad K];rfl
   refine⟨⟨E.1.1,by omega⟩,by rw[L];exact G _ (As _),E.2, ?_⟩;simp only at C;omega
theorem Y5{n:Qr2}(h:Ys n=Bn):(n.length<=600/\1<=n.length)/\(∀i,i<n.length->Yc (Qn n i)=Bn)/\(∀i,(aD (Qn n i)).length<=4/\(aW (Qn n i)).length<=4)/\Qbv n:=by
 unfold Ys at h;simp only[Bl]at h;have B:=h.1;unfold Jm at B;simp only[Bl]at B;have V:=Ql.1 B.1;have G:∀i,i<n.length->Yc (Qn n i)=Bn:=λi C=>by have:=Bf.1 B.2 i (List.mem_range.2 C);simp only[Bl]at this;exact this.1
 have K:∀x:Qb,Yc x=Bn->((aD x).length<=4/\(aW x).length<=4)/\0<=aL x/\aL x<=8:=λx H=>by
  unfold Yc at H;simp only[Bl,beq_iff_eq]at H;obtain⟨⟨⟨W,P⟩,E⟩,F⟩:=H;refine⟨⟨?_, ?_⟩, ?_⟩
  ·unfold Zt at F
   repeat' split at F
   all_goals simp only[Bl,beq_iff_eq]at F
   ·omega
   ·omega
   ·omega
   ·omega
   ·omega
   ·have:=Ql.1 F.2.1;omega
   ·omega
   ·omega
  ·rw[<-Int.ofNat_le,P]
   unfold Q0b;repeat' split
   all_goals first|(rename_i S;have:=Ql.1 S;omega)|omega
  ·unfold Zy at E
   split at E
   ·exact Ql.1 E
   ·simp only[Bl,beq_iff_eq]at E;omega
 have L:∀i,(aD (Qn n i)).length<=4/\(aW (Qn n i)).length<=4:=λi=>by
  by_cases C:i<n.length
  ·exact(K _ (G i C)).1
  ·unfold Qn;rw[Ab,List.getElem?_eq_none (by omega)];simp[Qab,aD,aW]
 refine⟨by omega,G,L,by omega, ?_, ?_⟩
 ·unfold Qs
  rw[Hz];have T:∀l:List Nat,(l.map λi=>(Q0i n i).length).sum<=l.length * 4:=λl=>by
   induction l with
   |nil=>simp
   |cons a r ih=>rw[List.map_cons,Fp,Bs,V0,Nat.succ_mul];have:=(L a).2;omega
  have:=T (List.range n.length);rw[List.length_range]at this;omega
 ·unfold V6
  have U:∀(l:List Qb) (x:Int),(∀y∈l,0<=aL y/\aL y<=8)->0<=x->x<=8->0<=l.foldl (λl x=>max l (aL x)) x/\l.foldl (λl x=>max l (aL x)) x<=8:=λl=>by
   induction l with
   |nil=>intro x _ B M;exact⟨B,M⟩
   |cons a r ih=>intro x O B M;rw[Ce];have:=O a Ae;exact ih _ (λy J=>O y (Aa _ J)) (by omega) (by omega)
  have:=U n 0 (λy J=>by obtain⟨i,C,rfl⟩:=Av.1 J;rw[<-Qx C];exact(K _ (G i C)).2) (by omega) (by omega);omega
end Go.Proofs.YthbpkpnioaniiaaGreat
