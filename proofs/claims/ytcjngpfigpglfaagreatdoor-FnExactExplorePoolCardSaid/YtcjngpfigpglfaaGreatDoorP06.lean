import Derived.Test.YtcjngpfigpglfaaGreatDoorP05
set_option maxHeartbeats 0
set_option maxRecDepth 100000
set_option linter.all false
namespace Go.Proofs.YtcjngpfigpglfaaGreatDoor
open Go.RowKit Go.Proofs.Tryz
open Go.Value renaming int->I,slice->A
open Go.IntKind renaming i64->Z
open Option renaming none->N,some->R
open OC(oC)
open OR(oR)
open JN(jN)
open Bool renaming true->Bn,false->Bm,and_eq_true->Bi,false_eq_true->Dc
open Go renaming Addr->Cp,World->Bh,Value->Bk
open Go.Addr.mk renaming injEq->Cq
open Go.RowKit.Below renaming heap_setCell->Es
open Go.World renaming cell?_setCell_other->Df,cell?_setCell_same->Bx,cell?->Er
open List renaming length_set->Bl,length_append->Bo,sum_cons->Gm,length_flatMap->Hq,mem_map->Dx,length_take->Cf,foldl_cons->Cb,length_cons->Br,map_cons->Ga,mem_filter->Di,mem_flatMap->Cz,mem_range->Cy,pairwise_flatten->Dw,pairwise_iff_getElem->Du,ext_getElem?->Eb,getElem?_take->Cm,getElem?_drop->Cu,length_drop->Dp,append_nil->Cl
open Nat renaming succ_mul->Dv,zero_add->Cg,reduceAdd->Bj,lt_or_gt_of_ne->Et
def Qj3{B:List (List Nat)}{i:Nat}(h:B.flatten.Nodup)(C:i<B):(B.getD i []).Nodup:=by
 grind
def Zh.focusW{w pb X m S}(h:Zh w pb X m S){i:Int}(Y:i.toNat<(mC m)):
  ∃(J:Option Cp) (K:Nat) (E C:List Nat),(w,S.cb,S.o+i.toNat * 5+4,A J (aW (Q7 (mC m) i)) K)/\Ow (.slice Q5) w [A J (aW (Q7 (mC m) i)) K] (aW (Q7 (mC m) i)) C/\C.Nodup/\(∀b∈E++C,b∈S.all/\b≠pb/\b≠S.cb)/\
   ∀(w2:Bh) (p:Option Cp) (n c:Nat) (F:List Wd) (G:List Nat),Q1 (λb=>b∈C) w w2->Ow (.slice Q5) w2 [A p n c] F G->n=F->G.Nodup->(∀b∈G,b∈C\/b∉pb::S.all)->
    Zh (w2.setCell (S.cb,S.o+i.toNat * 5+4) (A p n c)) pb X (Qa m i F) (S.put i (E++G)):=by
 obtain⟨us,A6,v,x⟩:=h.cell Y;obtain⟨d,f,J,K,E,C,rfl,L,P,y,z,i2,i3⟩:=x.agent;obtain⟨u0,u1,u2,u3,g⟩:=Q5v v;have j:=Ar.1 h.nodup;have l:S.cb∉S.Fs.flatten++S.Fx/\(S.Fs.flatten++S.Fx).Nodup:=Ar.1 j.2;have A7:=h.cells.len;have r:i.toNat<S.Fs:=by omega
 have M:(E++C).Nodup:=L▸Qj3 (Qxw l.2).1 r;have s:∀b∈E++C,b∈S.Fs.flatten:=λb B=>Zv r (L▸B);have T:∀b∈E++C,b∈S.all:=λb B=>Aa _ (Ag _ (s b B));have A0:∀b∈E++C,b≠pb:=λb B e=>j.1 (e▸T b B);have O:∀b∈E++C,b≠S.cb:=λb B e=>l.1 (e▸Ag _ (s b B));refine⟨J,K,E,C,g,y,(Qxw M).2.1,λb B=>⟨T b B,A0 b B,O b B⟩,λw2 p n c F G H t hn A1 U=> ?_⟩;subst hn;have V:S.cb∉C:=λe=>O _ (Af _ e) rfl;have u:=h.cells.blk.lt;have W:=Zw w2 S.cb (S.o+i.toNat * 5+4) (A p F c);have A2:w2.cell? (S.cb,S.o+i.toNat * 5+4)=R (A J (aW (Q7 (mC m) i)) K):=(H.cell u V _).trans g;have A3:∀b∈G,b≠S.cb:=λb B e=>(U b B).elim (λh=>O b (Af _ h) e) λh=>h (e▸Aa _ Ae);have A4:∀b∈E,b∉G:=λb B hg=>(U b hg).elim (λh=>(Qxw M).2.2 b B h) λh=>h (Aa _ (T b (Ag _ B)))
 refine h.turnC Y (us':=[(aK (Q7 (mC m) i)),(aL (Q7 (mC m) i)),(aV (Q7 (mC m) i)),A d (aD (Q7 (mC m) i)) f,A p F c]) ((H.mono λb B=> .inr (by rw[L];exact Af _ B)).trans (W.mono λb B=> .inl B))
  ((Qc.of_frame H V _ _).set (S.o+i.toNat * 5+4) (by omega) _) ?_ ?_ ?_ λb B=> ?_
 ·have k:∀q,q≠S.o+i.toNat * 5+4->(w2.setCell (S.cb,S.o+i.toNat * 5+4) (A p F c)).cell? ⟨S.cb,q,N⟩=w.cell? ⟨S.cb,q,N⟩:=λq hq=>by
   rw[Df _ _ _ _ (by intro e;simp only[Cq,and_true,true_and]at e;omega)];exact H.cell u V q
  exact Q1n ((k _ (by omega)).trans u0) ((k _ (by omega)).trans u1) ((k _ (by omega)).trans u2) ((k _ (by omega)).trans u3) (Bx _ _ _ A2)
 ·have A5:Ow (.slice .int) (w2.setCell (S.cb,S.o+i.toNat * 5+4) (A p F c)) [A d (aD (Q7 (mC m) i)) f] (aD (Q7 (mC m) i)) E:=
   (P.frame H λb B=>⟨P.lt b B,λe=>(Qxw M).2.2 b B e⟩).frame W λb B=>⟨Ap (P.lt b B) H.size,O b (Ag _ B)⟩
  exact Ow.mkAgent z i2 i3 A5 (t.frame W λb B=>⟨t.lt b B,A3 b B⟩)
 ·rw[Ba]
  exact⟨(Qxw M).1,A1,λa ha b B e=>A4 a ha (e▸B)⟩
 rcases At0.1 B with B|B
 ·exact .inl (by rw[L];exact Ag _ B)
 exact(U b B).imp (λh=>by rw[L];exact Af _ h) id
def Q90{m i ws l}(h:Yq m l)(B:i.toNat∉l):Yq (Qa m i ws) l:=h.put _ B
def Qn.focusW{M w O S pb K m l}(h:Qn M O pb K w m S l){i:Int}(V:i.toNat<(mC m))(W:i.toNat∉l):
  ∃(H:Option Cp) (J:Nat) (E C:List Nat),(w,S.cb,S.o+i.toNat * 5+4,A H (aW (Q7 (mC m) i)) J)/\Ow (.slice Q5) w [A H (aW (Q7 (mC m) i)) J] (aW (Q7 (mC m) i)) C/\C.Nodup/\(∀b∈E++C,b∈S.all/\b≠pb/\b≠S.cb)/\
   ∀(w2:Bh) (p:Option Cp) (n c:Nat) (G:List Wd) (B:List Nat),Q1 (λb=>b∈C) w w2->Ow (.slice Q5) w2 [A p n c] G B->n=G->B.Nodup->(∀b∈B,b∈C\/w<=b)->
    Qn M O pb K (w2.setCell (S.cb,S.o+i.toNat * 5+4) (A p n c)) (Qa m i G) (S.put i (E++B)) l/\Q4e w S (S.put i (E++B))/\Q1 (λc=>c∈S.all) w (w2.setCell (S.cb,S.o+i.toNat * 5+4) (A p n c)):=by
 obtain⟨H,J,E,C,X,Y,a,P,d⟩:=h.mem.focusW V;refine⟨H,J,E,C,X,Y,a,P,λw2 p n c G B T e f g j=> ?_⟩;have k:=h.mem.lt;have U:Q4e w S (S.put i (E++B)):=Q4e.put λb F=>by grind
 have L:Q1 (λc=>c∈S.all) w (w2.setCell (S.cb,S.o+i.toNat * 5+4) (A p n c)):=
  (T.mono λb F=>(P b (Af _ F)).1).trans ((Zw w2 S.cb _ _).mono λb F=>Q20 F)
 exact⟨h.step (d w2 p n c G B T e f g λb F=>(j b F).imp id λh q=>by have:=k b q;omega) (Q90 h.free W) U (L.mono λc r=> .inr r) (Qc.of_frame L (Ar.1 h.mem.nodup).1 K 5),U,L⟩
def Qn.focusN{G w H S pb J m l}(h:Qn G H pb J w m S l){i:Nat}(M:i<(mC m))(O:i∉l):
  ∃(K:Option Cp) (L:Nat) (E B:List Nat),(w,S.cb,S.o+i * 5+4,A K (aW (Q7 (mC m) (i:Int))) L)/\Ow (.slice Q5) w [A K (aW (Q7 (mC m) (i:Int))) L] (aW (Q7 (mC m) (i:Int))) B/\B.Nodup/\(∀b∈E++B,b∈S.all/\b≠pb/\b≠S.cb)/\
   ∀(w2:Bh) (p:Option Cp) (n c:Nat) (F:List Wd) (C:List Nat),Q1 (λb=>b∈B) w w2->Ow (.slice Q5) w2 [A p n c] F C->n=F->C.Nodup->(∀b∈C,b∈B\/w<=b)->
    Qn G H pb J (w2.setCell (S.cb,S.o+i * 5+4) (A p n c)) (Qa m (i:Int) F) (S.put (i:Int) (E++C)) l/\Q4e w S (S.put (i:Int) (E++C))/\Q1 (λc=>c∈S.all) w (w2.setCell (S.cb,S.o+i * 5+4) (A p n c)):=
 h.focusW (i:=(i:Int)) M O
def Qb8{w g T a b c d}(h:w.heap[g]?=R (.cells #[a,b,c,d] T))(B:Qyn a)(C:Qyn b)(E:Qyn c)(F:Qyn d):Ow (.slice Q5) w [A (R (g,0)) 2 2] [(a,b),(c,d)] [g]:=
 ⟨_,rfl,.inr ⟨g,0,2,_,T,[[],[]],rfl,Aj _,by simp[maxLen],h,by simp[Ty.sz],by simp,rfl,λi G=>by
  match i,G with
  |0,_=>exact Ow.word B C
  |1,_=>exact Ow.word E F⟩⟩
theorem Qo{X w W}(E:Q1 X w W){B}{q1:Nat}{v1}(C:w.cell? (B,q1)=R v1)(F:¬X B):W.cell? (B,q1)=R v1:=
 (E.cell (Ac w (B,q1) C) F q1).trans C
def Qc9{X w W}(B:Q1 X w W){C}{q1:Nat}{E}{G:Nat}{F}{H:Nat}{v1 J K}(L:w.cell? (C,q1)=R v1)(M:w.cell? (E,G)=R J)(O:w.cell? (F,H)=R K)(P:¬X C)(S:¬X E)(T:¬X F):
  (W,C,q1,v1)/\(W,E,G,J)/\(W,F,H,K):=⟨Qo B L P,Qo B M S,Qo B O T⟩
theorem Q62{X:Nat->Prop}{w W:Bh}(B:Q1 X w W){C q1 E J F K G L H M:Nat}{v1 O P S T:Bk}(U:w.cell? (C,q1)=R v1)(V:w.cell? (E,J)=R O)(Y:w.cell? (F,K)=R P)(a:w.cell? (G,L)=R S)(b:w.cell? (H,M)=R T)
  (c:¬X C) (d:¬X E) (e:¬X F) (f:¬X G) (g:¬X H):(W,C,q1,v1)/\(W,E,J,O)/\(W,F,K,P)/\(W,G,L,S)/\(W,H,M,T):=
 ⟨Qo B U c,Qo B V d,Qo B Y e,Qo B a f,Qo B b g⟩
def Yp(w0:Bh)(S:MS)(w:Bh)(v:Bk)(xs:List Qy3):Prop:=∃F,Ow (.slice Z7) w [v] xs F/\F.Nodup/\∀b∈F,w0<=b/\b∉S.all
theorem Yp.step{C w w' S S' v xs X}(h:Yp C S w v xs)(k:Q1 X w w')(hX:∀c,X c->c<C.heap.size\/c∈S.all)(E:∀b∈S'.all,b∈S.all\/w<=b):Yp C S' w' v xs:=by
 obtain⟨F,o,n,r⟩:=h;refine⟨F,o.frame k λb B=>⟨o.lt b B,λe=> ?_⟩,n,λb B=>⟨(r b B).1,λG=> ?_⟩⟩
 ·grind
 rcases E b G with h|h
 ·exact(r b B).2 h
 have:=o.lt b B;omega
def Yp.form{B w S v xs}(h:Yp B S w v xs):∃(p:Option Cp) (c:Nat),v=A p xs c:=let ⟨_,o,_⟩:=h;o.slice_form
def Yp.ofOwn{C:Bh}{w S v}{xs:List Qy3}{B}(h:Qxu Z7 146 B w v xs)(G:C<=B)(H:∀b∈S.all,b<B):Yp C S w v xs:=by
 obtain⟨F,o,n,r⟩:=h.ow rfl;exact⟨F,o,n,λb E=>⟨Au G (r b E).1,λJ=>by have:=(r b E).1;have:=H b J;omega⟩⟩
def Qpk{X:Nat->Prop}{w W:Bh}(B:Q1 X w W){C q1 E L F M G O H P J S K T:Nat}{v1 U V Y a b c:Bk}(d:w.cell? (C,q1)=R v1)(e:w.cell? (E,L)=R U)(f:w.cell? (F,M)=R V)(g:w.cell? (G,O)=R Y)(h:w.cell? (H,P)=R a)(i:w.cell? (J,S)=R b)(j:w.cell? (K,T)=R c)
  (k:¬X C) (l:¬X E) (m:¬X F) (n:¬X G) (o:¬X H) (p:¬X J) (q:¬X K):(W,C,q1,v1)/\(W,E,L,U)/\(W,F,M,V)/\(W,G,O,Y)/\(W,H,P,a)/\(W,J,S,b)/\(W,K,T,c):=
 ⟨Qo B d k,Qo B e l,Qo B f m,Qo B g n,Qo B h o,Qo B i p,Qo B j q⟩
def Je(e:Ty)(w0:Bh)(S:MS)(w:Bh)(v:Bk)(xs:List e.den):Prop:=∃F,Ow (.slice e) w [v] xs F/\F.Nodup/\∀b∈F,w0<=b/\b∉S.all
theorem Je.step{e C w w' S S' v xs X}(h:Je e C S w v xs)(k:Q1 X w w')(hX:∀c,X c->c<C.heap.size\/c∈S.all)(E:∀b∈S'.all,b∈S.all\/w<=b):Je e C S' w' v xs:=by
 obtain⟨F,o,n,r⟩:=h;refine⟨F,o.frame k λb B=>⟨o.lt b B,λe=> ?_⟩,n,λb B=>⟨(r b B).1,λG=> ?_⟩⟩
 ·grind
 rcases E b G with h|h
 ·exact(r b B).2 h
 have:=o.lt b B;omega
def Je.form{e B w S v xs}(h:Je e B S w v xs):∃(p:Option Cp) (c:Nat),v=A p xs c:=let ⟨_,o,_⟩:=h;o.slice_form
def Je.ofOwn{e T}{C:Bh}{w S v xs B}(h:Qxu e T B w v xs)(G:e.flat=Bn)(H:C<=B)(J:∀b∈S.all,b<B):Je e C S w v xs:=by
 obtain⟨F,o,n,r⟩:=h.ow G;exact⟨F,o,n,λb E=>⟨Au H (r b E).1,λK=>by have:=(r b E).1;have:=J b K;omega⟩⟩
theorem Je.rd{e B w S v xs}(h:Je e B S w v xs):Rd (.slice e) w [v] xs:=let ⟨_,o,_⟩:=h;o.rd
def Q5p.facts{w pb S b o}{k l v:Int}{d:List Int}{ws:List Wd}{G}(h:Q5p Q4 w b o (k,l,v,d,ws) G)(O:Qao (b::G) pb S):
  ∃(C:Option Cp) (E:Nat) (F:Option Cp) (H:Nat),(Qyn k/\Qyn l/\Qyn v)/\d<=maxLen/\ws<=maxLen/\∀W,Q1 (λc=>c=pb\/c∈S.all) w W->
   ((W,b,o,k)/\(W,b,o+1,l)/\(W,b,o+2,v)/\(W,b,o+3,A C d E)/\(W,b,o+4,A F ws H))/\
   Rd (.slice .int) W [A C d E] d/\Rd (.slice Q5) W [A F ws H] ws:=by
 obtain⟨us,g,P,T,U⟩:=h;obtain⟨C,E,F,H,V,X,rfl,rfl,J,K,Y,a,f⟩:=T.agent;have L:∀c∈b::(V++X),¬(c=pb\/c∈S.all):=λc B e=>O c B (e.elim (λe=>e▸Ae) (Aa _));refine⟨C,E,F,H,⟨Y,a,f⟩,J.gen.choose_spec.choose_spec.2,K.gen.choose_spec.choose_spec.2,λW M=>⟨Q5v (P.frame U M (L b Ae)),(J.frame M λc B=>⟨J.lt c B,L c (Aa _ (Ag _ B))⟩).rd,(K.frame M λc B=>⟨K.lt c B,L c (Aa _ (Af _ B))⟩).rd⟩⟩
def Ow.block0{e w p n c}{xs:List e.den}{F}(h:Ow (.slice e) w [A p n c] xs F){b o}(C:p=R ⟨b,o,N⟩)(B:xs≠ []):b∈F:=by
 obtain⟨v,E,h⟩:=h;rcases h with⟨h,_⟩|⟨b',o',G,cur,T,H,J,_,_,_,_,K,_⟩
 ·exact absurd h B
 grind
theorem Q2a{m i ws}:(mC (Qa m i ws)).length=(mC m):=Q01 m i
structure PS where
 S:MS
 wb:Nat
 wo:Nat
 wcap:Nat
 Fw:List (List Nat)
def PS.all(P:PS):List Nat:=P.S.all++P.wb::P.Fw.flatten
def PS.putW(P:PS)(k:Nat)(G:List Nat):PS:= {P with Fw:=P.Fw.set k G}
structure Y2 (w:Bh) (pb po:Nat) (p:Ye) (P:PS):Prop where
 mem:Zh w pb po (pM p) P.S
 c5:w.cell? ⟨pb,po+5,N⟩=R (A (R ⟨P.wb,P.wo,N⟩) (pW p).length P.wcap)
 c6:w.cell? ⟨pb,po+6,N⟩=R (I Z (pA p))
 i64:Qyn (pA p)
 wks:Q21 w P.wb P.wo P.wcap (pW p) P.Fw
 nd:(pb::P.all).Nodup
section
variable {w w':Bh} {pb po:Nat} {p:Ye} {P:PS}
theorem Y2.lt(h:Y2 w pb po p P):∀b∈pb::P.all,b<w.heap.size:=by
 intro b B;unfold PS.all at B;rw[Aq,At0]at B;rcases B with B|B|B
 ·exact h.mem.lt b (B▸Ae)
 ·exact h.mem.lt b (Aa _ B)
 exact h.wks.lt b B
def Y2.ap(h:Y2 w pb po p P):(∀b∈P.wb::P.Fw.flatten,b≠pb/\b∉P.S.all)/\∀b∈pb::P.S.all,b∉P.wb::P.Fw.flatten:=by
 have B:=Ar.1 h.nd;grind[PS.all]
theorem Y2.frame{X}(h:Y2 w pb po p P)(k:Q1 X w w')(hX:∀b∈pb::P.all,¬X b):Y2 w' pb po p P:=by
 have C:=hX pb Ae;have E:=h.mem.blk.lt;refine⟨h.mem.frame k λb B=>hX b ?_,(k.cell E C _).trans h.c5,(k.cell E C _).trans h.c6,h.i64,h.wks.frame k λb B=>hX b ?_,h.nd⟩
 ·rcases Aq.1 B with e|B
  ·grind
  exact Aa _ (Ag _ B)
 exact Aa _ (Af _ B)
theorem Q1m{b B n q v}(h:w.cell? (b,q)=R v)(C:Qy5 w b)(k:Qc b B n w w')(F:q<B\/B+n<=q):w'.cell? (b,q)=R v:=by
 have E:Qy2 w b q [v]:=λj G=>by grind
 exact Qa6 (E.keep C k (by simp only[List.length_singleton];omega))
def Y2.memStep{B S'}(h:Y2 w pb po p P)(C:Zh w' pb po B S')(G:Q1 (λc=>c=pb\/c∈P.S.all) w w')(E:Qc pb po 5 w w')(K:∀b∈S'.all,b∈P.S.all\/w<=b):Y2 w' pb po (B,pW p,pA p) {P with S:=S'}:=by
 obtain⟨H,L⟩:=h.ap;have M:=h.wks.lt;refine⟨C,Q1m h.c5 h.mem.blk E (by omega),Q1m h.c6 h.mem.blk E (by omega),h.i64,h.wks.frame G λb F e=>(H b F).elim λx y=>e.elim x y, ?_⟩;have J:=Ar.1 C.nodup;show(pb::(S'.all++P.wb::P.Fw.flatten)).Nodup;rw[Ar,Ba];refine⟨λO=> ?_,J.2,h.wks.nodup,λa T b F e=> ?_⟩
 ·grind
 grind
def Y2.setA(h:Y2 w pb po p P){a}(H:Qyn a):Y2 (w.setCell (pb,po+6) a) pb po (pM p,pW p,a) P:=by
 obtain⟨J,U⟩:=h.ap;have f1:=Zw w pb (po+6) a;have C:Qc pb (po+6) 1 w (w.setCell (pb,po+6) a):=(Qc.refl _ _ _ _).set (po+6) (by omega) _;have E:=Ar.1 h.mem.nodup;obtain⟨px,cx,F,K,L,M,O,S,G,T⟩:=h.mem;refine⟨⟨px,cx,F.keep C,K.keep F C (by simp),L,M,O,S.frame f1 λb B e=> ?_,G.frame f1 λb B=>⟨G.lt b B,λe=> ?_⟩,T⟩,Q1m h.c5 F C (by omega),Bx _ _ _ h.c6,H,h.wks.frame f1 λb B e=>(J b B).1 e,h.nd⟩
 ·subst e
  rcases Aq.1 B with B|B
  ·exact E.1 (B▸Ae)
  exact E.1 (Aa _ (At0.2 (.inl B)))
 subst e;exact E.1 (Aa _ (At0.2 (.inr B)))
def Q08(p:Ye)(k:Nat)(y:Qxb):Ye:=(pM p,(pW p).set k y,pA p)
theorem Q9u{p k}(h):Q3 p k=(pW p)[k]:=by
 unfold Q3;rw[Ab,Ad h];rfl
theorem Y2.turnW(h:Y2 w pb po p P){k:Nat}(T:k<(pW p)){us'}{y:Qxb}{G}(E:Q1 (λc=>c=P.wb\/c∈P.Fw.getD k []) w w')(U:Qc P.wb (P.wo+k * 5) 5 w w')(V:Qy2 w' P.wb (P.wo+k * 5) us')(W:Ow Qh w' us' y G)(X:G.Nodup)(H:∀b∈G,b∈P.Fw.getD k []\/b∉pb::P.all):Y2 w' pb po (Q08 p k y) (P.putW k G):=by
 obtain⟨f,Y⟩:=h.ap;have g:=h.wks.len;have hX:∀b∈pb::P.S.all,¬(b=P.wb\/b∈P.Fw.getD k []):=λb B e=>Y b B (e.elim (λe=>e▸Ae) λe=>Aa _ (Zv (by omega) e));have J:=hX pb Ae;have K:=h.mem.blk.lt;have L:=h.wks.turn T E U V W X λb B=>(H b B).imp id λe F=>e (Aa _ (Af _ F));have M:=Ar.1 h.nd;refine⟨h.mem.frame E hX, ?_,(E.cell K J _).trans h.c6,h.i64,L, ?_⟩
 ·rw[E.cell K J]
  show _=R (A _ ((pW p).set k y) _);rw[Bl];exact h.c5
 show(pb::(P.S.all++P.wb::(P.Fw.set k G).flatten)).Nodup;have O:∀b∈P.wb::(P.Fw.set k G).flatten,b≠pb/\b∉P.S.all:=by
  intro b B;rcases Aq.1 B with e|B
  ·grind
  rcases Jc B with B|⟨j,hj,_,B⟩
  ·rcases H b B with B|B
   ·grind
   exact⟨λe=>B (e▸Ae),λF=>B (Aa _ (Ag _ F))⟩
  grind[Zv]
 rw[Ar,Ba];refine⟨λC=> ?_,(Ba.1 M.2).1,L.nodup,λa d b B e=>(O b B).2 (e▸d)⟩;rcases At0.1 C with C|C
 ·exact M.1 (Ag _ C)
 exact(O _ C).1 rfl
def Ow.worker{us}{x:Qxb}{G}(h:Ow Qh w us x G):
  ∃(px:Option Cp) (cx:Nat) (B:Option Cp) (C:Nat) (E:Option Cp) (F:Nat) (H J K:List Nat),us=[I Z (wP x),I Z (wV x),A px (wX x) cx,A B (wL x) C,A E (wC x) F]/\G=H++(J++K)/\
   Ow (.slice Q5) w [A px (wX x) cx] (wX x) H/\Ow (.slice Z7) w [A B (wL x) C] (wL x) J/\Ow (.slice .int) w [A E (wC x) F] (wC x) K/\Qyn (wP x)/\Qyn (wV x):=by
 obtain⟨_,_,_,_,rfl,rfl,⟨rfl,P,rfl⟩,_,_,_,_,rfl,rfl,⟨rfl,S,rfl⟩,_,_,H,_,rfl,rfl,L,_,_,J,K,rfl,rfl,M,O⟩:=h;obtain⟨px,cx,rfl,L⟩:=V5 L;obtain⟨B,C,rfl,M⟩:=V5 M;obtain⟨E,F,rfl,O⟩:=V5 O;exact⟨px,cx,B,C,E,F,H,J,K,rfl,by simp,L,M,O,P,S⟩
def Ow.mkWorker{B C}{xs:List Wd}{H:List Qy3}{cs:List Int}{px J K L cx M O P S E F G}(T:Qyn B)(U:Qyn C)(V:Ow (.slice Q5) w [A px L cx] xs E)(W:Ow (.slice Z7) w [A J M O] H F)(X:Ow (.slice .int) w [A K P S] cs G):
  Ow Qh w [B,C,A px L cx,A J M O,A K P S] (B,C,xs,H,cs) (E++(F++G)):=
 ⟨[_],_,[],_,rfl,rfl,⟨rfl,T,rfl⟩,[_],_,[],_,rfl,rfl,⟨rfl,U,rfl⟩,[_],_,E,_,rfl,rfl,V,[_],[_],F,G,rfl,rfl,W,X⟩
def Y2.focus(h:Y2 w pb po p P){k:Nat}(M:k<(pW p)):
  ∃(px:Option Cp) (cx:Nat) (F:Option Cp) (G:Nat) (H:Option Cp) (J:Nat) (B C E:List Nat),
   ((w,P.wb,P.wo+k * 5,(wP (Q3 p k)))/\(w,P.wb,P.wo+k * 5+1,(wV (Q3 p k)))/\(w,P.wb,P.wo+k * 5+2,A px (wX (Q3 p k)) cx)/\(w,P.wb,P.wo+k * 5+3,A F (wL (Q3 p k)) G)/\(w,P.wb,P.wo+k * 5+4,A H (wC (Q3 p k)) J))/\
   Ow (.slice Q5) w [A px (wX (Q3 p k)) cx] (wX (Q3 p k)) B/\Ow (.slice Z7) w [A F (wL (Q3 p k)) G] (wL (Q3 p k)) C/\Ow (.slice .int) w [A H (wC (Q3 p k)) J] (wC (Q3 p k)) E/\(Qyn (wP (Q3 p k))/\Qyn (wV (Q3 p k)))/\
   P.Fw.getD k []=B++(C++E)/\(B++(C++E)).Nodup/\(∀b∈B++(C++E),b∈P.all/\b≠pb/\b≠P.wb/\b∉P.S.all):=by
 obtain⟨us,f,V,O⟩:=h.wks.cell k M;rw[<-Q9u M]at O;obtain⟨px,cx,F,G,H,J,B,C,E,rfl,L,W,X,Y,a,c⟩:=O.worker;obtain⟨T,g⟩:=h.ap;have i:=h.wks.len;have U:=Ar.1 h.wks.nodup;refine⟨px,cx,F,G,H,J,B,C,E,Q5v V,W,X,Y,⟨a,c⟩,L,L▸Qj3 U.2 (by omega),λb d=> ?_⟩;have K:b∈P.Fw.flatten:=Zv (by omega) (L▸d);exact⟨Af _ (Aa _ K),(T b (Aa _ K)).1,λe=>U.1 (e▸K),(T b (Aa _ K)).2⟩
end
theorem Q27{p}{k:Nat}{j y}(B:k<(pW p)):Q3 (Q08 p k y) j=if k=j then y else Q3 p j:=by
 grind[Q3,Q08,pW]
structure Z4 (w0:Bh) (P0:PS) (pb po:Nat) (w:Bh) (p:Ye) (P:PS):Prop where
 pool:Y2 w pb po p P
 fresh:P.wb=P0.wb/\P.wo=P0.wo/\∀b∈P.all,b∈P0.all\/w0.heap.size<=b
 fr:Q1 (λc=>c=pb\/c∈P0.all) w0 w
section
variable {w0 w w':Bh} {pb po:Nat} {p p':Ye} {P0 P P':PS}
theorem Z4.start(h:Y2 w pb po p P):Z4 w P pb po w p P:=⟨h,⟨rfl,rfl,λ_ h=> .inl h⟩,Q1.refl _ _⟩
theorem Z4.trans(h:Z4 w0 P0 pb po w p P)(E:pb<w0)(k:Z4 w P pb po w' p' P'):Z4 w0 P0 pb po w' p' P':=by
 refine⟨k.pool,⟨k.fresh.1.trans h.fresh.1,k.fresh.2.1.trans h.fresh.2.1,λb B=> ?_⟩,⟨k.fr.os.trans h.fr.os,k.fr.tape.trans h.fr.tape,k.fr.output.trans h.fr.output,Au h.fr.size k.fr.size,λb B hX=> ?_⟩⟩
 ·rcases k.fresh.2.2 b B with B|B
  ·exact h.fresh.2.2 b B
  exact .inr (Au h.fr.size B)
 rw[k.fr.block b (Ap B h.fr.size) (λC=>hX ?_)]
 ·exact h.fr.block b B hX
 rcases C with e|e
 ·exact .inl e
 exact(h.fresh.2.2 b e).elim .inr λe=>by omega
theorem Z4.other{Y}(h:Z4 w0 P0 pb po w p P)(B:Q1 Y w w')(F:∀c,Y c->c∉pb::P.all/\w0<=c):Z4 w0 P0 pb po w' p P:=
 ⟨h.pool.frame B λb C E=>(F b E).1 C,h.fresh,⟨B.os.trans h.fr.os,B.tape.trans h.fr.tape,B.output.trans h.fr.output,Au h.fr.size B.size,λb C hX=>by rw[B.block b (Ap C h.fr.size) (λE=>by have:=(F b E).2;omega)];exact h.fr.block b C hX⟩⟩
theorem Z4.below(h:Z4 w0 P0 pb po w p P)(B:Below w w w'):Z4 w0 P0 pb po w' p P:=h.other (Y:=λ_=>False) (Ay B) (λ_ h=>h.elim)
theorem Z4.drew(h:Z4 w0 P0 pb po w p P):Z4 w0 P0 pb po w.drew p P:=h.other (Y:=λ_=>False) (Q1.refl _ _).drew (λ_ h=>h.elim)
theorem PS.all_put{k b G}(h:b∈(P.putW k G).all):b∈G\/b∈P.all:=by
 grind[PS.all,PS.putW,Jc,Zv]
def Y2.ofMem{C S' l'}(h:Y2 w pb po p P)(k:Qn w P.S pb po w' C S' l'):Z4 w P pb po w' (C,pW p,pA p) {P with S:=S'}:=
 ⟨h.memStep k.mem k.fr k.keep k.fresh.2.2.2,⟨rfl,rfl,λb B=>by
  rcases At0.1 B with B|B
  ·exact(k.fresh.2.2.2 b B).imp (Ag _) id
  exact .inl (Af _ B)⟩,k.fr.mono λc E=>E.imp id (Ag _)⟩
def Y2.stM{C S'}(h:Y2 w pb po p P)(G:Zh w' pb po C S')(E:Q1 (λc=>c=pb\/c∈P.S.all) w w')(H:Qc pb po 5 w w')(F:∀b∈S'.all,b∈P.S.all\/w<=b):Z4 w P pb po w' (C,pW p,pA p) {P with S:=S'}:=
 ⟨h.memStep G E H F,⟨rfl,rfl,λb B=>by
  rcases At0.1 B with B|B
  ·exact(F b B).imp (Ag _) id
  exact .inl (Af _ B)⟩,E.mono λc J=>J.imp id (Ag _)⟩
theorem Y2.stA(h:Y2 w pb po p P){a}(B:Qyn a):Z4 w P pb po (w.setCell (pb,po+6) a) (pM p,pW p,a) P:=
 ⟨h.setA B,⟨rfl,rfl,λ_ h=> .inl h⟩,(Zw _ _ _ _).mono λc C=> .inl C⟩
def PS.wb_all:P.wb∈P.all:=Af _ Ae
theorem Y2.set1(h:Y2 w pb po p P){k:Nat}(V:k<(pW p))(q)(i:P.wo+k * 5<=q/\q<P.wo+k * 5+5){v H J K L M}{y:Qxb}{G w2}(X)(hX:∀c,X c->c∈P.Fw.getD k [])(E:Q1 X w w2)(W:Qy2 (w2.setCell (P.wb,q) v) P.wb (P.wo+k * 5) [H,J,K,L,M])(O:Ow Qh w2 [H,J,K,L,M] y G)(Y:G.Nodup)(S:∀b∈G,b∈P.Fw.getD k []\/w<=b):Z4 w P pb po (w2.setCell (P.wb,q) v) (Q08 p k y) (P.putW k G):=by
 have j:=h.wks.len;have T:=Ar.1 h.wks.nodup;have F:∀b∈P.Fw.getD k [],b∈P.Fw.flatten:=λb B=>Zv (by omega) B;have a:¬X P.wb:=λe=>T.1 (F _ (hX _ e));have f1:=Zw w2 P.wb q v;have U:=h.lt;have l:P.wb<w:=U P.wb (Aa _ PS.wb_all);have d:∀b∈P.Fw.getD k [],b∈P.all:=λb B=>Af _ (Aa _ (F b B));have f:∀b∈G,b≠P.wb:=λb B e=>(S b B).elim (λx=>T.1 (e▸F b x)) λx=>by omega
 refine⟨h.turnW V ((E.mono λc C=> .inr (hX c C)).trans (f1.mono λc C=> .inl C)) ((Qc.of_frame E a _ _).set q (by omega) v) W (O.frame f1 λb B=>⟨O.lt b B,f b B⟩) Y λb B=>(S b B).imp id λx g=>by have:=U b g;omega,⟨rfl,rfl,λb B=> ?_⟩,(E.mono λc C=> .inr (d c (hX c C))).trans (f1.mono λc C=> .inr (C▸PS.wb_all))⟩;grind[PS.all_put]
def Q8k{b o q v B C E F G}(K:w.cell? (b,o)=R B)(L:w.cell? (b,o+1)=R C)(M:w.cell? (b,o+2)=R E)(O:w.cell? (b,o+3)=R F)(P:w.cell? (b,o+4)=R G):
  Qy2 (w.setCell (b,q) v) b o [if q=o then v else B,if q=o+1 then v else C,if q=o+2 then v else E,if q=o+3 then v else F,if q=o+4 then v else G]:=by
 have S:∀ {j:Nat} {u:Bk},w.cell? (b,j)=R u->(w.setCell (b,q) v).cell? (b,j)=R (if q=j then v else u):=λ{j u} H=>by
  split
  ·rename_i e;subst e;exact Bx _ _ _ H
  rename_i e;rw[Df _ _ _ _ (by intro J;simp only[Cq,and_true,true_and]at J;omega)];exact H
 grind[Q1n]
def Y2.stP(h:Y2 w pb po p P){k:Nat}(B:k<(pW p)){v}(E:Qyn v):∃P',Z4 w P pb po (w.setCell (P.wb,P.wo+k * 5) v) (Q08 p k (Yx (Q3 p k) v)) P':=by
 obtain⟨px,cx,W,X,Y,a,c,d,e,⟨F,G,H,J,K⟩,L,M,O,⟨f,S⟩,T,U,g⟩:=h.focus B;have C:=Q8k (q:=P.wo+k * 5) (v:=I Z v) F G H J K;simp at C;exact⟨_,h.set1 B (P.wo+k * 5) (by omega) (λ_=>False) (λ_ h=>h.elim) (Q1.refl _ _) C (Ow.mkWorker E S L M O) U λb V=> .inl (T▸V)⟩
def Y2.stV(h:Y2 w pb po p P){k:Nat}(B:k<(pW p)){v}(E:Qyn v):∃P',Z4 w P pb po (w.setCell (P.wb,P.wo+k * 5+1) v) (Q08 p k (Q6k (Q3 p k) v)) P':=by
 obtain⟨px,cx,W,X,Y,a,c,d,e,⟨F,G,H,J,K⟩,L,M,O,⟨S,f⟩,T,U,g⟩:=h.focus B;have C:=Q8k (q:=P.wo+k * 5+1) (v:=I Z v) F G H J K;simp at C;exact⟨_,h.set1 B (P.wo+k * 5+1) (by omega) (λ_=>False) (λ_ h=>h.elim) (Q1.refl _ _) C (Ow.mkWorker S E L M O) U λb V=> .inl (T▸V)⟩
def Q9s(x:Qxb)(ls:List Qy3):Qxb:=(wP x,wV x,wX x,ls,wC x)
def Qv9(x:Qxb)(cs:List Int):Qxb:=(wP x,wV x,wX x,wL x,cs)
def Y2.focR(h:Y2 w pb po p P){k:Nat}(O:k<(pW p)):
  ∃(px:Option Cp) (cx:Nat) (C:List Nat),(w,P.wb,P.wo+k * 5+2,A px (wX (Q3 p k)) cx)/\Ow (.slice Q5) w [A px (wX (Q3 p k)) cx] (wX (Q3 p k)) C/\C.Nodup/\(∀b∈C,b∈P.all/\b≠pb/\b≠P.wb/\b∉P.S.all)/\
   ∀(w2:Bh) (G:Option Cp) (H E:Nat) (xs:List Wd) (F:List Nat),Q1 (λb=>b∈C) w w2->Ow (.slice Q5) w2 [A G H E] xs F->F.Nodup->(∀b∈F,b∈C\/w<=b)->
    ∃P',Z4 w P pb po (w2.setCell (P.wb,P.wo+k * 5+2) (A G H E)) (Q08 p k (Yh (Q3 p k) xs)) P':=by
 obtain⟨px,cx,t,u,y,z,C,V,W,⟨X,Y,E,a,d⟩,f,T,J,⟨g,i⟩,j,l,M⟩:=h.focus O;have K:=Qxw l;refine⟨px,cx,C,E,f,K.1,λb B=>M b (Ag _ B),λw2 G H m xs F L n hF o=> ?_⟩;have r:P.wb<w:=h.lt P.wb (Aa _ PS.wb_all);have s:P.wb∉C:=λe=>(M _ (Ag _ e)).2.2.1 rfl;have kk:=λq=>L.cell r s q;have U:=Q8k (q:=P.wo+k * 5+2) (v:=A G H m) ((kk _).trans X) ((kk _).trans Y) ((kk _).trans E) ((kk _).trans a) ((kk _).trans d);simp at U;have A0:∀b∈V++W,b∉F:=λb B e=>(o b e).elim (λx=>K.2.2 b x B) λx=>by have:=h.lt b (Aa _ (M b (Af _ B)).1);omega
 refine⟨_,h.set1 O (P.wo+k * 5+2) (by omega) (λb=>b∈C) (λc J=>j▸Ag _ J) L U (Ow.mkWorker g i n (T.frame L λb B=>⟨T.lt b B,λe=>K.2.2 b e (Ag _ B)⟩) (J.frame L λb B=>⟨J.lt b B,λe=>K.2.2 b e (Af _ B)⟩)) ?_ λb B=> ?_⟩
 ·grind
 grind
def Y2.focL(h:Y2 w pb po p P){k:Nat}(X:k<(pW p)):
  ∃(px:Option Cp) (cx:Nat) (E:List Nat),(w,P.wb,P.wo+k * 5+3,A px (wL (Q3 p k)) cx)/\Ow (.slice Z7) w [A px (wL (Q3 p k)) cx] (wL (Q3 p k)) E/\E.Nodup/\(∀b∈E,b∈P.all/\b≠pb/\b≠P.wb/\b∉P.S.all)/\
   (∀(w2:Bh) (O:Option Cp) (F K:Nat) (xs:List Qy3) (L:List Nat),Q1 (λb=>b∈E) w w2->Ow (.slice Z7) w2 [A O F K] xs L->L.Nodup->(∀b∈L,b∈E\/w<=b)->
    ∃P',Z4 w P pb po (w2.setCell (P.wb,P.wo+k * 5+3) (A O F K)) (Q08 p k (Q9s (Q3 p k) xs)) P')/\
   (∀(w2:Bh) (xs:List Qy3),Q1 (λb=>b∈E) w w2->Ow (.slice Z7) w2 [A px (wL (Q3 p k)) cx] xs E->∃P',Z4 w P pb po w2 (Q08 p k (Q9s (Q3 p k) xs)) P'):=by
 obtain⟨px,cx,pl,cl,pc,cc,E,M,g,⟨i,j,K,Y,l⟩,T,hl,G,⟨m,n⟩,H,o,U⟩:=h.focus X;have J:=Qxw o;have F:=Qxw J.2.1;have r:P.wb<w:=h.lt P.wb (Aa _ PS.wb_all);have d:P.wb∉M:=λe=>(U _ (Af _ (Ag _ e))).2.2.1 rfl;have V:∀b∈M,b∈P.Fw.getD k []:=λb B=>H▸Af _ (Ag _ B);refine⟨pl,cl,M,Y,hl,F.1,λb B=>U b (Af _ (Ag _ B)),λw2 O A0 d2 xs L C f hF s=> ?_,λw2 xs C f=> ?_⟩
 ·have kk:=λq=>C.cell r d q
  have t:=Q8k (q:=P.wo+k * 5+3) (v:=A O A0 d2) ((kk _).trans i) ((kk _).trans j) ((kk _).trans K) ((kk _).trans Y) ((kk _).trans l);simp at t;have u:∀b,b∈E\/b∈g->b∉L:=λb B e=>(s b e).elim (λx=>B.elim (λy=>J.2.2 b y (Ag _ x)) λy=>F.2.2 b x y) λx=>by have:=h.lt b (Aa _ (U b (B.elim (Ag _) λy=>Af _ (Af _ y))).1);omega
  refine⟨_,h.set1 X (P.wo+k * 5+3) (by omega) (λb=>b∈M) V C t (Ow.mkWorker m n (T.frame C λb B=>⟨T.lt b B,λe=>J.2.2 b B (Ag _ e)⟩) f (G.frame C λb B=>⟨G.lt b B,λe=>F.2.2 b e B⟩)) ?_ λb B=> ?_⟩
  ·rw[Ba,Ba]
   exact⟨J.1,⟨hF,F.2.1,λa W b B e=>u b (.inr B) (e▸W)⟩,λa W b B e=>(At0.1 B).elim (λy=>u a (.inl W) (e▸y)) λy=>J.2.2 a W (Af _ (e▸y))⟩
  rcases At0.1 B with B|B
  ·exact .inl (H▸Ag _ B)
  rcases At0.1 B with B|B
  ·exact(s b B).imp (V b) id
  exact .inl (H▸Af _ (Af _ B))
 have kk:=λq=>C.cell r d q;have z:∀b∈P.Fw.getD k [],b∈P.all:=λb B=>(U b (H▸B)).1;refine⟨P.putW k (E++(M++g)),h.turnW X (C.mono λc G=> .inr (V c G)) (Qc.of_frame C d _ _) (Q1n ((kk _).trans i) ((kk _).trans j) ((kk _).trans K) ((kk _).trans Y) ((kk _).trans l)) (Ow.mkWorker m n (T.frame C λb B=>⟨T.lt b B,λe=>J.2.2 b B (Ag _ e)⟩) f (G.frame C λb B=>⟨G.lt b B,λe=>F.2.2 b e B⟩)) o (λb B=> .inl (H▸B)),⟨rfl,rfl,λb B=> ?_⟩,C.mono λc G=> .inr (z c (V c G))⟩;rcases PS.all_put B with B|B
 ·exact .inl (z b (H▸B))
 exact .inl B
end
section
variable {w0 w w':Bh} {pb po:Nat} {p p':Ye} {P0 P P':PS}
def Z4.setL(h:Z4 w0 P0 pb po w p P)(hp:pb<w0){k:Nat}(Y:k<(pW p)){E G H}{xs:List Qy3}{C}(J:Ow (.slice Z7) w [A E G H] xs C)(m:C.Nodup)(K:∀b∈C,w0<=b/\b∉pb::P.all):
  ∃P',Z4 w0 P0 pb po (w.setCell (P.wb,P.wo+k * 5+3) (A E G H)) (Q08 p k (Q9s (Q3 p k) xs)) P'/\P'.wb=P.wb/\P'.wo=P.wo/\P'.S=P.S/\∀b∈P'.all,b∈P.all\/b∈C:=by
 obtain⟨px,cx,pl,cl,pc,cc,M,d,O,⟨n,o,r,s,u⟩,z,hl,T,⟨i0,i1⟩,U,hN,V⟩:=h.pool.focus Y;have W:=Qxw hN;have n2:=Qxw W.2.1;have f:=Q8k (q:=P.wo+k * 5+3) (v:=A E G H) n o r s u;simp at f;have f1:=Zw w P.wb (P.wo+k * 5+3) (A E G H);have g:∀b∈M++(d++O),b≠P.wb:=λb B=>(V b B).2.2.1;have A2:∀b∈P.Fw.getD k [],b∈P.all:=λb B=>(V b (U▸B)).1;have i:∀b∈M++(d++O),b∉C:=λb B e=>(K b e).2 (Aa _ (V b B).1);have A0:∀b∈C,b≠P.wb:=λb B e=>(K b B).2 (e▸Aa _ PS.wb_all);have X:∀ {t:Ty} {vs:List Bk} {x:t.den} {F:List Nat},Ow t w vs x F->(∀b∈F,b≠P.wb)->Ow t (w.setCell (P.wb,P.wo+k * 5+3) (A E G H)) vs x F:=λJ B=>J.frame f1 λb j=>⟨J.lt b j,B b j⟩
 have A1:=h.pool.turnW Y (f1.mono λc T=> .inl T) ((Qc.refl _ _ _ _).set (P.wo+k * 5+3) (by omega) (A E G H)) f
  (Ow.mkWorker i0 i1 (X z λb B=>g b (Ag _ B)) (X J A0) (X T λb B=>g b (Af _ (Af _ B))))
  (by rw[Ba,Ba];exact⟨W.1,⟨m,n2.2.1,λa L b B e=>i b (Af _ (Af _ B)) (e▸L)⟩,λa L b B e=>(At0.1 B).elim (λy=>i a (Ag _ L) (e▸y)) λy=>W.2.2 a L (Af _ (e▸y))⟩)
  (λb B=>by
   rcases At0.1 B with B|B
   ·exact .inl (U▸Ag _ B)
   rcases At0.1 B with B|B
   ·exact .inr (K b B).2
   exact .inl (U▸Af _ (Af _ B)))
 have l:∀b∈(P.putW k (M++(C++O))).all,b∈P.all\/b∈C:=λb B=>by
  rcases PS.all_put B with B|B
  ·grind
  exact .inl B
 refine⟨_,⟨A1,⟨h.fresh.1,h.fresh.2.1,λb B=> ?_⟩,⟨f1.os.trans h.fr.os,f1.tape.trans h.fr.tape,f1.output.trans h.fr.output,Au h.fr.size f1.size,λb B hX=> ?_⟩⟩,rfl,rfl,rfl,l⟩
 ·exact(l b B).elim (λB=>h.fresh.2.2 b B) λB=> .inr (K b B).1
 rw[f1.block b (Ap B h.fr.size) (λe=>hX (.inr ?_))]
 ·exact h.fr.block b B hX
 rcases h.fresh.2.2 P.wb PS.wb_all with x|x
 ·exact e▸x
 omega
def Z4.setN(h:Z4 w0 P0 pb po w p P)(hp:pb<w0){k:Nat}(S:k<(pW p)){i:Nat}(T:i<(wC (Q3 p k))):
  ∃(C E M:Nat),(w,P.wb,P.wo+k * 5+4,A (R (C,E)) (wC (Q3 p k)) M)/\(w,C,E+i,((wC (Q3 p k)).getD i 0))/\(∀q,w.frozen? ⟨C,q,N⟩=Bm)/\
   ∀v,Qyn v->∃P',Z4 w0 P0 pb po (w.setCell (C,E+i) v) (Q08 p k (Qv9 (Q3 p k) ((wC (Q3 p k)).set i v))) P'/\P'.wb=P.wb/\P'.wo=P.wo:=by
 obtain⟨px,cx,pl,cl,pc,M,Gx,Gl,Gc,⟨n,o,r,s,U⟩,u,z,H,⟨i0,i1⟩,J,V,W⟩:=h.pool.focus S;have X:=Qxw V;have Y:=Qxw X.2.1;obtain⟨C,E,us,G,rfl,K,A5,A6,A7,A8,A9,A0,A1,a,A2⟩:=H.focus Y.2.1 i T;have A3:=Va (t:=.int) rfl a;subst A3;obtain⟨rfl,AA,-⟩:us=[I Z (wC (Q3 p k))[i]]/\Qyn (wC (Q3 p k))[i]/\True:=by obtain⟨e1,e2,-⟩:=a;exact⟨e1,e2,trivial⟩
 have O:=Qa6 A0;simp only[Ty.sz,Nat.mul_one]at O;refine⟨C,E,M,U,by rw[Ab,Ad T];exact O,A1,λv hv=> ?_⟩;have f1:=Zw w C (E+i) v;have d:=W C (Af _ (Af _ K));have kk:∀q,(w.setCell (C,E+i) v).cell? ⟨P.wb,q,N⟩=w.cell? ⟨P.wb,q,N⟩:=λq=>f1.cell (h.pool.lt P.wb (Aa _ PS.wb_all)) (λe=>d.2.2.1 e.symm) q;have L:=A2 _ [v] v (f1.mono λc H=> .inl H) (by simpa[Ty.sz]using(Qc.refl C (E+i) 1 w).set (E+i) (by omega) v) (by
  intro j hj;obtain rfl:j=0:=by simpa using hj
  simpa[Ty.sz]using Bx _ _ v O) ⟨rfl,hv,rfl⟩
 have f:∀ {t:Ty} {vs:List Bk} {x:t.den} {F:List Nat},Ow t w vs x F->(∀b∈F,b≠C)->Ow t (w.setCell (C,E+i) v) vs x F:=λL B=>L.frame f1 λb g=>⟨L.lt b g,B b g⟩;have l:∀b∈P.Fw.getD k [],b∈P.all:=λb B=>(W b (J▸B)).1;have m:C∈P.Fw.getD k []:=J▸Af _ (Af _ K)
 have A4:=h.pool.turnW S (y:=Qv9 (Q3 p k) ((wC (Q3 p k)).set i v)) (f1.mono λc H=> .inr (H▸m)) (Qc.of_frame f1 (λe=>d.2.2.1 e.symm) _ _) (Q1n ((kk _).trans n) ((kk _).trans o) ((kk _).trans r) ((kk _).trans s) ((kk _).trans U))
  (Ow.mkWorker i0 i1 (f u λb B e=>X.2.2 b B (Af _ (e▸K))) (f z λb B e=>Y.2.2 b B (e▸K)) L) V (λb B=> .inl (J▸B))
 refine⟨_,⟨A4,⟨h.fresh.1,h.fresh.2.1,λb B=> ?_⟩,⟨f1.os.trans h.fr.os,f1.tape.trans h.fr.tape,f1.output.trans h.fr.output,Au h.fr.size f1.size,λb B hX=> ?_⟩⟩,rfl,rfl⟩
 ·exact(PS.all_put B).elim (λB=>h.fresh.2.2 b (l b (J▸B))) λB=>h.fresh.2.2 b B
 rw[f1.block b (Ap B h.fr.size) (λe=>hX (.inr ?_))]
 ·exact h.fr.block b B hX
 rcases h.fresh.2.2 C (l C m)with x|x
 ·exact e▸x
 omega
def Z4.noX(h:Z4 w0 P0 pb po w p P):∃P',Z4 w0 P0 pb po (w.setCell (pb,po+4) (A N 0 0)) ((mC (pM p),mF (pM p),mR (pM p),[]),pW p,pA p) P'/\P'.wb=P.wb/\P'.wo=P.wo/\∀b∈P'.all,b∈P.all:=by
 have f1:=Zw w pb (po+4) (A N 0 0);obtain⟨_,_,_,_,_,_,H,_⟩:=h.pool.mem.head;have E:Qc pb (po+4) 1 w (w.setCell (pb,po+4) (A N 0 0)):=(Qc.refl _ _ _ _).set (po+4) (by omega) _;have J:=h.pool.mem.turnX (xs:=[]) (px:=N) (cx:=0) (Fx:=[]) (f1.mono λc C=> .inl C) E (Bx _ _ _ H) (Ow.nil _) (by simp) (by simp);have F:∀b∈({P.S with Fx:=[]}:MS).all,b∈P.S.all:=λb B=>by unfold MS.all at B⊢;grind
 have K:=h.pool.memStep J (f1.mono λc C=> .inl C) (E.wide (by omega) (by omega)) λb B=> .inl (F b B);have G:∀b∈({P with S:= {P.S with Fx:=[]}}:PS).all,b∈P.all:=λb B=>by
  rcases At0.1 B with B|B
  ·exact Ag _ (F b B)
  exact Af _ B
 exact⟨_,⟨K,⟨h.fresh.1,h.fresh.2.1,λb B=>h.fresh.2.2 b (G b B)⟩,h.fr.trans (f1.mono λc C=> .inl C)⟩,rfl,rfl,G⟩
def Y2.at(h:Y2 w pb po p P):At Qv w pb po p:=by
 obtain⟨cs,C,E,F⟩:=h.mem.at;have B:cs.length=5:=C;refine⟨cs++([_]++ [_]),by rw[Bo,B];rfl,Qy2.join E (by rw[B];exact Q76 h.c5 h.c6),cs,_,rfl,F,[_],_,rfl,h.wks.rd,⟨rfl,h.i64⟩⟩
def Z4.stP(h:Z4 w0 P0 pb po w p P)(C:pb<w0){k:Nat}(E:k<(pW p)){v}(F:Qyn v):∃P',Z4 w0 P0 pb po (w.setCell (P0.wb,P0.wo+k * 5) v) (Q08 p k (Yx (Q3 p k) v)) P':=by
 obtain⟨P',B⟩:=h.pool.stP E F;rw[h.fresh.1,h.fresh.2.1]at B;exact⟨P',h.trans C B⟩
def Z4.stV(h:Z4 w0 P0 pb po w p P)(C:pb<w0){k:Nat}(E:k<(pW p)){v}(F:Qyn v):∃P',Z4 w0 P0 pb po (w.setCell (P0.wb,P0.wo+k * 5+1) v) (Q08 p k (Q6k (Q3 p k) v)) P':=by
 obtain⟨P',B⟩:=h.pool.stV E F;rw[h.fresh.1,h.fresh.2.1]at B;exact⟨P',h.trans C B⟩
theorem Z4.stA(h:Z4 w0 P0 pb po w p P)(B:pb<w0){a}(C:Qyn a):Z4 w0 P0 pb po (w.setCell (pb,po+6) a) (pM p,pW p,a) P:=h.trans B (h.pool.stA C)
def Z4.focR(h:Z4 w0 P0 pb po w p P)(O:pb<w0){k:Nat}(S:k<(pW p)):
  ∃(px:Option Cp) (cx:Nat) (C:List Nat),(w,P0.wb,P0.wo+k * 5+2,A px (wX (Q3 p k)) cx)/\Ow (.slice Q5) w [A px (wX (Q3 p k)) cx] (wX (Q3 p k)) C/\(∀b∈C,b≠P0.wb)/\(wX (Q3 p k))<=cx/\
   ∀(w2:Bh) (E:Option Cp) (F G:Nat) (xs:List Wd) (B:List Nat),Q1 (λ_=>False) w w2->Ow (.slice Q5) w2 [A E F G] xs B->B.Nodup->(∀b∈B,w<=b)->
    ∃P',Z4 w0 P0 pb po (w2.setCell (P0.wb,P0.wo+k * 5+2) (A E F G)) (Q08 p k (Yh (Q3 p k) xs)) P':=by
 obtain⟨px,cx,C,c,K,a,T,U⟩:=h.pool.focR S;have H:=h.fresh.1;have L:=h.fresh.2.1;refine⟨px,cx,C,by rw[<-H,<-L];exact c,K,λb J=>by rw[<-H];exact(T b J).2.2.1, ?_,λw2 E F G xs B V W X Y=> ?_⟩
 ·obtain⟨_,_,d,e,_⟩:=Jh K.rd
  grind
 obtain⟨P',M⟩:=U w2 E F G xs B (V.mono λ_ h=>h.elim) W X λb J=> .inr (Y b J);rw[H,L]at M;exact⟨P',h.trans O M⟩
theorem Z4.cells(h:Z4 w0 P0 pb po w p P){k:Nat}(M:k<(pW p)):(∃C,(w,pb,po+5,A (R (P0.wb,P0.wo)) (pW p) C)/\(pW p)<=C)/\(w,pb,po+6,(pA p))/\
  ((w,P0.wb,P0.wo+k * 5,(wP (Q3 p k)))/\(w,P0.wb,P0.wo+k * 5+1,(wV (Q3 p k)))/\(∃px cx,w.cell? (P0.wb,P0.wo+k * 5+2)=R (A px (wX (Q3 p k)) cx))/\∃E F,w.cell? (P0.wb,P0.wo+k * 5+3)=R (A E (wL (Q3 p k)) F))/\
  (∀q,w.frozen? ⟨P0.wb,q,N⟩=Bm)/\(∀q,w.frozen? ⟨pb,q,N⟩=Bm)/\P0.wb<w/\pb<w/\pb≠P0.wb:=by
 obtain⟨px,cx,E,F,S,T,U,V,W,⟨G,H,J,K,X⟩,-⟩:=h.pool.focus M;have B:=h.fresh.1;have O:=h.fresh.2.1;have L:=h.pool.c5;rw[B,O]at G H J K L;refine⟨⟨_,L,h.pool.wks.bound.1⟩,h.pool.c6,⟨G,H,⟨_,_,J⟩,_,_,K⟩,λq=> ?_,λq=>h.pool.mem.blk.free q, ?_,h.pool.mem.blk.lt,λe=> ?_⟩
 ·rw[<-B];exact h.pool.wks.blk.free q
 ·rw[<-B];exact h.pool.wks.blk.lt
 exact(h.pool.ap.1 P.wb Ae).1 (by rw[B];exact e.symm)
end
def Qbz(bk:List Qy0)(x:Qb)(n:Nat):Prop:=(0<=aV x/\aV x<bk)/\Yd (Yc bk (aV x))=Bn/\(0<=aL x/\aL x<=8)/\(Yc bk (aV x)).length+(Zg (Yc bk (aV x))).length<=n+2
theorem Q9f{B}{ws:List Qxb}{a}{k:Nat}{y}(C:k<ws):Q3 (B,ws.set k y,a) k=y:=by
 grind[Q3,pW]
theorem Qiy{B}{ws:List Qxb}{a k y z}:Q08 (B,ws.set k y,a) k z=(B,ws.set k z,a):=by
 unfold Q08;simp only[pM,pW,pA,List.set_set]
def Qrs{w}(h:0<(wX w).length):Yg w∈wX w:=by
 unfold Yg;grind
def Qjl{p}{k:Nat}(B:k<(pW p)){r}(h:r∈wX (Q3 p k)):r∈Qr (pW p):=by
 grind[Qr,Q3]
def Q9w:∀(l:List Nat) {n:Nat},n∈l->n<=l.sum
 |a::r,n,h=>by
  rw[Gm];rcases Aq.1 h with rfl|h
  ·omega
  have:=Q9w r h;omega
def Qck{p}{k:Nat}(B:k<(pW p)):(wX (Q3 p k)).length<=(Qr (pW p)):=by
 unfold Qr;rw[Hq,Q9u B];exact Q9w _ (Dx.2 ⟨(pW p)[k],As _,rfl⟩)
def Rd.init{e w p n c m}{xs:List e.den}(h:Rd (.slice e) w [A p n c] xs)(C:m<=n)(B:0<xs.length):Rd (.slice e) w [A p m c] (xs.take m:List e.den):=by
 obtain⟨v,E,h⟩:=h;obtain rfl:=List.cons.inj E|>.1;rcases h with⟨_,h⟩|⟨b,o,c',F,H,G,J⟩
 ·rw[h]at B;simp at B
 obtain⟨rfl,rfl,rfl⟩:=F;refine⟨_,rfl,.inr ⟨b,o,c,by rw[Cf,Nat.min_eq_left C],by rw[Cf];omega,G,λi K=> ?_⟩⟩;simp_all
structure Qch (bk:List Qy0) (p:Ye) (k:Nat) (l:List Nat):Prop where
 len:1<=(mC (pM p)).length/\(mC (pM p)).length<=1500
 free:Yq (pM p) l
 freeLen:l.length=Qx (mC (pM p))
 small:∀i:Int,0<=i->i<(mC (pM p)).length->(aD (Q7 (mC (pM p)) i)).length<=4/\(aW (Q7 (mC (pM p)) i)).length<=3
 rok:Zn (mC (pM p)) (Yg (Q3 p k))=Bn
 cells:∀i,i<(mC (pM p)).length->Ze (Q9 (mC (pM p)) i)=Bn
 nin:(Yg (Q3 p k)).1.toNat∉l/\(Yg (Q3 p k)).2.toNat∉l
 xlen:(wX (Q3 p k)).length<=1500
 mx:mX (pM p)=[]
 counts:(wC (Q3 p k)).length=7/\∀c∈wC (Q3 p k),0<=c/\c<=1000000000
def Qlm{p}(bk){k}(h:Q0y p)(B:k<(pW p).length)(K:0<(wX (Q3 p k)).length):∃l,Qch bk p k l:=by
 obtain⟨X,L,M,Y,O⟩:=Q1c h;obtain⟨P,a,E,b,S,d,T⟩:=Q5y O;obtain⟨l,f1,U,F⟩:=Qul T;have G:=S _ (Qjl B (Qrs K));obtain⟨⟨f,g,j⟩,V,W⟩:=J0 G;have H:∀k,Y9 k=Bn->k≠0:=λk B e=>by rw[e]at B;exact absurd B (by decide)
 have C:=M k B;unfold Y4 at C;simp only[Bi]at C;obtain⟨⟨-,-,J,-⟩,-⟩:=C;unfold Vj at J;simp only[Bi,beq_iff_eq]at J;refine⟨l,P,f1,U,λi m n=>Qed (E _ (by omega)),G,E,⟨F _ (H _ V),F _ (H _ W)⟩, ?_,L,⟨by omega,λc o=> ?_⟩⟩
 ·have:=Qck B;omega
 grind[Qj]
def Q8g{bk p k l}(h:Qch bk p k l)(K:Qu (mC (pM p)) (Yg (Q3 p k))=7):(0<=aV (xM (mC (pM p)) (Yg (Q3 p k)))/\aV (xM (mC (pM p)) (Yg (Q3 p k)))<=23)/\0<=aL (xM (mC (pM p)) (Yg (Q3 p k)))/\aL (xM (mC (pM p)) (Yg (Q3 p k)))<=8:=by
 obtain⟨⟨L,M,O⟩,E,F⟩:=J0 h.rok;have G:Ze (Q7 (mC (pM p)) (Yg (Q3 p k)).1)=Bn:=h.cells _ (by omega);have H:Ze (Q7 (mC (pM p)) (Yg (Q3 p k)).2)=Bn:=h.cells _ (by omega);have B:Ze (xM (mC (pM p)) (Yg (Q3 p k)))=Bn/\Y9 (aK (xM (mC (pM p)) (Yg (Q3 p k))))=Bn:=by
  rcases Q3j (mC (pM p)) (Yg (Q3 p k))with⟨-,C,J⟩|⟨-,C,J⟩<;>rw[C]
  ·exact⟨G,E⟩
  exact⟨H,F⟩
 have P:=Q2t B.1 B.2;rcases Q5n h.cells h.rok with h8|⟨hr,he,-⟩
 ·omega
 have S:=Q4t (ka:=aK (xM (mC (pM p)) (Yg (Q3 p k)))) (la:=aL (xM (mC (pM p)) (Yg (Q3 p k)))) (kb:=aK (yM (mC (pM p)) (Yg (Q3 p k)))) (lb:=aL (yM (mC (pM p)) (Yg (Q3 p k)))) (by rw[he];omega);omega
theorem Qoo{α:Type}{f:Qyb×List Qy3->α->Qyb×List Qy3}(B:∀s a,mX (f s a).1=mX s.1):∀(l:List α) (s:Qyb×List Qy3),mX (l.foldl f s).1=mX s.1
 | [],_=>rfl
 |a::l,s=>by rw[Cb,Qoo B l];exact B s a
theorem Qhj{α:Type}{f:Qyb->α->Qyb}(B:∀s a,mX (f s a)=mX s):∀(l:List α) (s:Qyb),mX (l.foldl f s)=mX s
 | [],_=>rfl
 |a::l,s=>by rw[Cb,Qhj B l];exact B s a
theorem Qll{α:Type}{f:Qyb×Wd->α->Qyb×Wd}(B:∀s a,mX (f s a).1=mX s.1):∀(l:List α) (s:Qyb×Wd),mX (l.foldl f s).1=mX s.1
 | [],_=>rfl
 |a::l,s=>by rw[Cb,Qll B l];exact B s a
theorem Qh7{α:Type}{f:Qyb->α->Qyb}(B:∀s a,(mX (f s a)).length=(mX s)+1):∀(l:List α) (s:Qyb),(mX (l.foldl f s)).length=(mX s)+l.length
 | [],_=>rfl
 |a::l,s=>by rw[Cb,Qh7 B l,B s a,Br];omega
theorem Q6o{m a b}:(mX (Ya m a b)).length=(mX m)+1:=by simp[Ya,mX]
theorem Qba(m:Qyb)(l:Int):∀n,mX (Yy m l n).1=mX m
 |0=>rfl
 |n+1=>Qba m l n
theorem Qbm(n:Qy0)(l:Int)(m:Qyb):∀j,mX (Jg n l m j)=mX m
 |0=>rfl
 |j+1=>Qbm n l m j
def Qq8(bk m B a b):(mX (Yz bk m B a b).1).length<=(mX m)+1+(Y5 (Yc bk (aV (Q7 (mC m) a)))).length:=by
 unfold Yz;simp only;split
 ·unfold V2
  simp only;have C:(mX (V8 (V2.netOf' bk (aV (Q7 (mC m) a))) (aL (Q7 (mC m) a)) (1,b) (Qd m a)).1).length=(mX m)+(Y5 (Yc bk (aV (Q7 (mC m) a)))).length:=by
   unfold V8;simp only;rw[Qh7 (λs p=>Q6o),Qll]
   ·rw[Qbm];rfl
   intro s w;unfold Yj;simp only;repeat' split
   all_goals rfl
  grind[Q6o]
 repeat' split
 ·show(mX m).length<=_;omega
 ·unfold Qa4
  simp only;rw[Qoo (f:=Zq _ _ _) (λs p=>rfl)];show(mX m).length<=_;omega
 ·rw[Qoo (f:=Ym) (λs p=>rfl)]
  show(mX m).length<=_;omega
 ·show(mX m).length<=_;omega
 ·unfold Jx
  simp only;split
  ·rw[Qba];show(mX m).length<=_;omega
  rw[Q6o,Qhj (f:=Zr _ _ _) (λs p=>rfl),Qba];show(mX m).length+1<=_;omega
 show(mX m).length<=_;omega
def Q50(bk:List Qy0)(p:Ye)(k:Nat):Ye:=if Q0f bk (pM p) (Q3 p k)=0 then((Q8p bk (pM p) (Q3 p k)).1,(pW p).set k (Q8p bk (pM p) (Q3 p k)).2,pA p)else p
def Qf2{cs:List Qb}{q0 q1:Int}(h:0<=q0/\q0<q1/\q1<cs)(l:List Nat)(B:q0.toNat∉l/\q1.toNat∉l):((0<=(Zi cs (q0,q1)).1/\(Zi cs (q0,q1)).1<cs)/\0<=(Zi cs (q0,q1)).2/\(Zi cs (q0,q1)).2<cs)/\(Zi cs (q0,q1)).1≠(Zi cs (q0,q1)).2/\(Zi cs (q0,q1)).1.toNat∉l/\(Zi cs (q0,q1)).2.toNat∉l:=by
 grind[Q3j]
def Qlc{bk cs p}{n:Nat}(F:Qu cs p=7)(B:(Zt bk cs p).2=0)(E:(0<=aV (xM cs p)/\aV (xM cs p)<=23)/\0<=aL (xM cs p)/\aL (xM cs p)<=8)(G:∀n∈bk,Yd n=Bn)(C:(Zt bk cs p).1<=n+1):Qbz bk (xM cs p) n:=by
 unfold Zt at B C;rw[F]at B C;simp only[Int.reduceBEq,Dc,if_false,if_true]at B C;split at B
 ·simp at B
 rename_i H;rw[if_neg H]at C;split at B
 ·simp at B
 rename_i J;rw[if_neg J]at C;have K:(aV (xM cs p)).toNat<bk:=by omega
 have L:Yc bk (aV (xM cs p))=bk[(aV (xM cs p)).toNat]:=by unfold Yc;rw[Ab,Ad K];rfl
 refine⟨⟨E.1.1,by omega⟩,by rw[L];exact G _ (As _),E.2, ?_⟩;simp only at C;omega
theorem Yl{n:Qy0}(h:Yd n=Bn):(n.length<=600/\1<=n.length)/\(∀i,i<n.length->Yb (Q9 n i)=Bn)/\(∀i,(aD (Q9 n i)).length<=4/\(aW (Q9 n i)).length<=4)/\Qbs n:=by
 unfold Yd at h;simp only[Bi]at h;have B:=h.1;unfold Jr at B;simp only[Bi]at B;have S:=Qj.1 B.1;have J:∀i,i<n.length->Yb (Q9 n i)=Bn:=λi C=>by grind
 have O:∀x:Qb,Yb x=Bn->((aD x).length<=4/\(aW x).length<=4)/\0<=aL x/\aL x<=8:=λx E=>by
  unfold Yb at E;simp only[Bi,beq_iff_eq]at E;obtain⟨⟨⟨T,U⟩,F⟩,G⟩:=E;refine⟨⟨?_, ?_⟩, ?_⟩
  ·unfold Zd at G
   repeat' split at G
   all_goals simp only[Bi,beq_iff_eq]at G
   ·omega
   ·omega
   ·omega
   ·omega
   ·omega
   ·grind[Qj]
   ·omega
   omega
  ·grind[V4,Qj]
  unfold Zm at F;split at F
  ·exact Qj.1 F
  grind
 have K:∀i,(aD (Q9 n i)).length<=4/\(aW (Q9 n i)).length<=4:=λi=>by grind[Q9,Q9x,aD,aW]
 refine⟨by omega,J,K,by omega, ?_, ?_⟩
 ·unfold Qk
  rw[Hq];have V:∀l:List Nat,(l.map λi=>(Q0k n i).length).sum<=l * 4:=λl=>by
   induction l with
   |nil=>simp
   |cons a r ih=>rw[Ga,Gm,Br,Vc,Dv];have:=(K a).2;omega
  grind
 unfold V3;have P:∀(l:List Qb) (x:Int),(∀y∈l,0<=aL y/\aL y<=8)->0<=x->x<=8->0<=l.foldl (λl x=>max l (aL x)) x/\l.foldl (λl x=>max l (aL x)) x<=8:=λl=>by
  induction l with
  |nil=>intro x _ B L;exact⟨B,L⟩
  |cons a r ih=>intro x M B L;rw[Cb];have:=M a Ae;exact ih _ (λy H=>M y (Aa _ H)) (by omega) (by omega)
 have:=P n 0 (λy H=>by obtain⟨i,C,rfl⟩:=Av.1 H;rw[<-Qy C];exact(O _ (J i C)).2) (by omega) (by omega);omega
def J9(n:Qy0)(at_:List Int)(K:Nat)(m:Qyb)(l:List Nat):Prop:=(mC m).length=K/\Yq m l/\∀i,1<=i->i<n.length->0<=at_.getD i 0/\at_.getD i 0<K/\(at_.getD i 0).toNat∉l/\(aW (Q7 (mC m) (at_.getD i 0))).length=(aW (Q9 n i))-1
theorem J9.set{n at_ K m l}(h:J9 n at_ K m l){c k x}(B:c.toNat∉l):J9 n at_ K (Qm m c k x) l:=by
 obtain⟨C,E,F⟩:=h;refine⟨by unfold Qm Qa;rw[Q01,C],E.put _ B,λi G H=> ?_⟩;grind[Qm,Qa,Q39,aW,Q7]
theorem J9.var{n at_ K m e l}(h:J9 n at_ K m (e::l)):J9 n at_ K (Qw m) l/\mF m=(e:Int)/\e<K:=by
 obtain⟨B,C,F⟩:=h;obtain⟨f1,E,G⟩:=C.take Z6;refine⟨⟨by unfold Qw;rw[Qg,B],f1,λi H J=> ?_⟩,E,by omega⟩;grind[Qw,Yr]
theorem Q7r(n l m j):(Qxs n l m j)=j+1:=by simp[Qxs]
def Qsw{n l m j}:Qxs n l m (j+1)=Qxs n l m j++ [mF (Jg n l m j)]:=by simp[Qxs,List.range_succ]
theorem Qj5(n l m){j i}(h:i<j):(Qxs n l m j).getD (i+1) 0=mF (Jg n l m i):=by
 unfold Qxs;grind
theorem Qg0(x l):(aW (Q30 x l)).length=(aW x)-1:=by simp[Q30,aW]
def Qev{n:Qy0}{by_:Int}{m:Qyb}{l:List Nat}(h:Yq m l):∀j,j<=l.length->Yq (Jg n by_ m j) (l.drop j)/\(mC (Jg n by_ m j)).length=(mC m)/\
  ∀i,i<j->mF (Jg n by_ m i)=((l.getD i 0:Nat):Int)/\l.getD i 0<(mC m).length/\l.getD i 0∉l.drop j/\(aW (Q7 (mC (Jg n by_ m j)) (l.getD i 0:Nat))).length=(aW (Q9 n (i+1)))-1
 |0,_=>⟨h,rfl,λi C=>absurd C (Nat.not_lt_zero _)⟩
 |j+1,hj=>by
  obtain⟨B,E,J⟩:=Qev h j (by omega);have F:l.drop j=l.getD j 0::l.drop (j+1):=by rw[List.drop_eq_getElem_cons (by omega),Ab,Ad (by omega)];rfl
  have G:=Jm.nodup B;rw[F]at B G;obtain⟨f1,H,K⟩:=B.take (Q30 (Q9 n (j+1)) by_);refine⟨f1,by show(mC (Qi _ _)).length=_;rw[Qg,E],λi C=> ?_⟩;show _/\_/\_/\(aW (Q7 (mC (Qi (Jg n by_ m j) (Q30 (Q9 n (j+1)) by_))) _)).length=_;rw[Yr,H];by_cases e:i=j
  ·grind[Qg0]
  grind
def Qcf{n by_ m l}(h:Yq m l)(B:n.length-1<=l.length):J9 n (Qxs n by_ m (n.length-1)) (mC m) (Jg n by_ m (n.length-1)) (l.drop (n.length-1)):=by
 obtain⟨C,E,F⟩:=Qev (n:=n) (by_:=by_) h (n.length-1) B;refine⟨E,C,λi G H=> ?_⟩;obtain⟨k,rfl⟩:∃k,i=k+1:=⟨i-1,by omega⟩;grind[Qj5]
def Qm0{n:Qy0}(h:Yd n=Bn){w}(G:w∈Yw n):(0<=w.1.1/\w.1.1<n)/\(0<=w.1.2/\w.1.2<(aW (Q7 n w.1.1)))/\(1<=w.2.1/\w.2.1<n)/\(0<=w.2.2/\w.2.2<(aW (Q7 n w.2.1)))/\(w.1.1=0->w.1.2=0):=by
 have M:=h;unfold Yd at h;simp only[Bi]at h;unfold Yw at G;obtain⟨p,B,rfl⟩:=Dx.1 G;obtain⟨B,O⟩:=Di.1 B;have C:=Bf.1 h.2 p B;obtain⟨i,H,B⟩:=Cz.1 B;obtain⟨k,J,rfl⟩:=Dx.1 B;have H:=Cy.1 H;have J:=Cy.1 J;unfold Q0x Q12 at C;simp only[Bi]at C;obtain⟨-,⟨q1,K⟩,-⟩:=C;have q1:=Qj.1 q1;have K:=Qj.1 K;have P:(aW (Q9 n 0)).length<=1:=by
  have E:=h.1;unfold Jr at E;simp only[Bi]at E;have F:=Bf.1 E.2 0 (Cy.2 (by omega));simp only[Bi]at F;have S:aK (Q9 n 0)=1:=by simpa using F.2
  have L:=F.1;unfold Yb at L;simp only[Bi,beq_iff_eq]at L;grind[V4]
 grind[Vm,Q7]
def Q7i{x}(h:Yb x=Bn)(B:Zf (aK x)=Bn):0<=aL x/\aL x<=8:=by
 unfold Yb Zm at h;simp only[Bi,B,if_true]at h;exact Qj.1 h.1.2
def Qmk{x}(h:Yb x=Bn):aK x≠0:=by
 intro e;unfold Yb at h;rw[e]at h;simp only[Bi,beq_iff_eq,decide_eq_true_eq]at h;grind[V4]
theorem Q1t{x}(h:Yb x=Bn):1<=(aW x).length:=by
 unfold Yb at h;grind
def Qcu{n:Qy0}(h:Yd n=Bn){p}(E:p∈Y5 n):(0<=p.1/\p.1<n)/\(0<=p.2/\p.2<n):=by
 have F:=(Yl h).2.1;unfold Yd at h;simp only[Bi]at h;obtain⟨i,B,rfl⟩:=Dx.1 E;have B:=Cy.1 (Di.1 B).1;have H:=Q1t (F i B);have G:(((i:Nat):Int),((0:Nat):Int))∈Qk n:=Cz.2 ⟨i,Cy.2 B,Dx.2 ⟨0,Cy.2 (by omega),rfl⟩⟩;have C:=Bf.1 h.2 _ G;unfold Q0x Q12 at C;simp only[Bi]at C;grind[Qj]
def Qmz{w:Bh}{b:Nat}{T B G C E F}(h:w.heap[b]?=R (.cells #[B,G,C,E,F] T)){v}:
  (w.setCell (b,1) v).heap[b]?=R (.cells #[B,v,C,E,F] T):=by
 have:=Jn [v] 1 w _ h;simp only[Yu,Cg,Bj]at this;rw[this];simp[Q1u]
def Qdv{w:Bh}{b:Nat}{T B C E F G}(h:w.heap[b]?=R (.cells #[B,C,E,F,G] T)){v}:
  (w.setCell (b,4) v).heap[b]?=R (.cells #[B,C,E,F,v] T):=by
 have:=Jn [v] 4 w _ h;simp only[Yu,Cg,Bj]at this;rw[this];simp[Q1u]
theorem Qge(c:Qb):Qyv Q4 c=(aD c)+(aW c).length:=by
 show Qyv .int _+(Qyv .int _+(Qyv .int _+(Qyv (.slice .int) _+Qyv (.slice Q5) _)))=_;rw[Zy rfl,Zy rfl];simp only[Vn,Cg];rfl
theorem Q9g(x:Qxb):Qyv Qh x=(wX x)+((wL x).length+(wC x).length):=by
 show Qyv .int _+(Qyv .int _+(Qyv (.slice Q5) _+(Qyv (.slice Z7) _+Qyv (.slice .int) _)))=_;rw[Zy rfl,Zy rfl,Zy rfl];simp only[Vn,Cg];rfl
theorem Qq9(m:Qyb):Qyv Qq m=((mC m).length+Q87 Q4 (mC m))+(mX m).length:=by
 show Qyv (.slice Q4) _+(Qyv .int _+((Qyv .int _+Qyv .int _)+Qyv (.slice Q5) _))=_;rw[Q0o,Zy rfl];simp only[Vn,Cg,Nat.add_zero];rfl
theorem Qli(p:Ye):Qyv Qv p=Qyv Qq (pM p)+((pW p).length+Q87 Qh (pW p)):=by
 show Qyv Qq _+(Qyv (.slice Qh) _+Qyv .int _)=_;rw[Q0o];rfl
def Q7w{e:Ty}{B:Nat}:∀(xs:List e.den),(∀x∈xs,Qyv e x<=B)->Q87 e xs<=xs * B
 | [],_=>by simp[Q87]
 |x::r,h=>by
  have E:=Q7w r λy C=>h y (Aa _ C);have F:=h x Ae;unfold Q87 at *
  rw[Ga,Gm,Br,Dv];omega
def Q41{e:Ty}{α:Type}(f:e.den->List α)(c:Nat)(B:∀x,(f x)<=c * Qyv e x):∀xs:List e.den,(xs.flatMap f)<=c * Q87 e xs
 | []=>by simp[Q87]
 |x::r=>by
  have C:=Q41 f c B r;have E:=B x;unfold Q87 at *
  rw[List.flatMap_cons,Bo,Ga,Gm,Nat.mul_add];omega
def Q8z(p):(Z8 (pM p)).length+(Jd (pW p)).length<=1+2 * Qyv Qv p/\(Qr (pW p))<=Qyv Qv p:=by
 have B:((mC (pM p)).flatMap aW).length<=1 * Q87 Q4 (mC (pM p)):=Q41 (e:=Q4) aW 1 (λc=>by rw[Qge];omega) (mC (pM p));have C:(Jd (pW p)).length<=2 * Q87 Qh (pW p):=Q41 (e:=Qh) (α:=Wd) (λ(w:Qxb)=>(wL w).flatMap λ(l:Qy3)=> [l.1,l.2]) 2 (λx=>by
  rw[Q9g,Hq];have:∀l:List Qy3,(l.map λa=> [a.1,a.2].length).sum=2 * l.length:=λl=>by
   induction l with
   |nil=>rfl
   |cons a r ih=>rw[Ga,Gm,ih,Br];simp;omega
  rw[this];omega) (pW p)
 have E:(Qr (pW p)).length<=1 * Q87 Qh (pW p):=Q41 (e:=Qh) wX 1 (λx=>by rw[Q9g];omega) (pW p);grind[Qli,Qq9,Z8]
def Y8(K:Nat)(m:Qyb):Prop:=∀c∈mC m,(aD c)<=K/\(aW c)<=K
theorem Y8.get{K m}(h:Y8 K m)(i):(aD (Q7 (mC m) i))<=K/\(aW (Q7 (mC m) i))<=K:=by
 unfold Q7 Q9;rw[Ab];rcases e:(mC m)[i.toNat]? with _|c
 ·exact⟨Ak _,Ak _⟩
 exact h c (List.mem_of_getElem? e)
theorem Y8.mono{K L m}(h:Y8 K m)(B:K<=L):Y8 L m:=λc C=>⟨Au (h c C).1 B,Au (h c C).2 B⟩
theorem Y8.set{K m i y f r x}(h:Y8 K m)(C:(aD y)<=K/\(aW y)<=K):Y8 K ((mC m).set i y,f,r,x):=λc B=>by
 rcases List.mem_or_eq_of_mem_set B with B|rfl
 ·exact h c B
 exact C
theorem Y8.take{K m y}(h:Y8 K m)(B:(aD y)<=K/\(aW y)<=K):Y8 K (Qi m y):=h.set B
theorem Y8.release{K m i}(h:Y8 K m):Y8 K (Qd m i):=h.set ⟨Ak _,Ak _⟩
theorem Y8.words{K m i}{ws:List Wd}(h:Y8 K m)(B:ws<=K):Y8 K (Qa m i ws):=h.set ⟨(h.get i).1,B⟩
theorem Y8.add{K m i x}(h:Y8 K m):Y8 (K+1) (J4 m i x):=(h.mono (Nat.le_succ _)).words (by rw[Bo];have:=(h.get i).2;simp;omega)
theorem Y8.word{K m i k x}(h:Y8 K m):Y8 K (Qm m i k x):=h.words (by rw[Bl];exact(h.get i).2)
theorem Y8.redex{K m a b}(h:Y8 K m):Y8 K (Ya m a b):=h
def Qie{K:Nat}(C:2<=K)(B c d:Int):∀(ws:List Wd) (s:Qyb×List Qy3) (L:Nat),K<=L->Y8 L s.1->Y8 (L+2 * ws.length) (ws.foldl (Zq B c d) s).1
 | [],_,_,_,h=>h
 |w::r,s,L,hl,h=>by
  rw[Cb,Br];have E:Y8 (L+2) (Zq B c d s w).1:=by unfold Zq Qw Z6;refine Y8.add (Y8.add ((((h.take ?_).take ?_).take ?_).words ?_))<;>simp[aD,aW]<;>omega
  exact(Qie C B c d r _ (L+2) (by omega) E).mono (by omega)
def Qhp{K:Nat}:∀(ws:List Wd) (s:Qyb×List Qy3),Y8 K s.1->Y8 K (ws.foldl Ym s).1
 | [],_,h=>h
 |w::r,s,h=>by rw[Cb];exact Qhp r _ (h.take ⟨Ak _,Ak _⟩)
def Qdx{K:Nat}{m:Qyb}{l:Int}(h:Y8 K m):∀n,Y8 K (Yy m l n).1
 |0=>h
 |n+1=>(Qdx h n).take ⟨Ak _,Ak _⟩
def Q9y{α:Type}{K:Nat}{f:Qyb->α->Qyb}(B:∀m a,Y8 K m->Y8 K (f m a)):∀(l:List α) (m:Qyb),Y8 K m->Y8 K (l.foldl f m)
 | [],_,h=>h
 |a::r,m,h=>by rw[Cb];exact Q9y B r _ (B m a h)
def Qbf{α:Type}{K:Nat}{f:Qyb×Wd->α->Qyb×Wd}(B:∀s a,Y8 K s.1->Y8 K (f s a).1):∀(l:List α) (s:Qyb×Wd),Y8 K s.1->Y8 K (l.foldl f s).1
 | [],_,h=>h
 |a::r,m,h=>by rw[Cb];exact Qbf B r _ (B m a h)
def Qdl{K:Nat}{n:Qy0}{l:Int}{m:Qyb}(B:∀i,(aD (Q9 n i))<=K/\(aW (Q9 n i))<=K)(h:Y8 K m):∀j,Y8 K (Jg n l m j)
 |0=>h
 |j+1=>(Qdl B h j).take ⟨(B _).1,by simp only[Q30,aW,List.length_replicate];have:=(B (j+1)).2;simp only[aW]at this;omega⟩
def Qmu{bk:List Qy0}{m G a b K}(H:2<=K)(h:Y8 K m)(L:∀n∈bk,∀i,(aD (Q9 n i))<=K/\(aW (Q9 n i))<=K):Y8 (3 * K) (Yz bk m G a b).1:=by
 have M:=h.get a;have E:=h.get b;have B:Y8 K (Qd (Qd m a) b):=h.release.release;have C:K<=3 * K:=by omega
 unfold Yz;simp only;split
 ·refine Y8.mono ?_ C
  unfold V2;simp only;have J:∀i,(aD (Q9 (V2.netOf' bk (aV (Q7 (mC m) a))) i))<=K/\(aW (Q9 (V2.netOf' bk (aV (Q7 (mC m) a))) i))<=K:=by unfold V2.netOf';grind[Q9,Q9x,aD,aW]
  have O:Y8 K (V8 (V2.netOf' bk (aV (Q7 (mC m) a))) (aL (Q7 (mC m) a)) (1,b) (Qd m a)).1:=by
   unfold V8;simp only;refine Q9y (λm p h=>h.redex) _ _ (Qbf (λs w h=> ?_) _ _ (Qdl J h.release _));unfold Yj;simp only;repeat' split
   ·exact h
   ·exact h.word
   ·exact((h.take (y:=Z6) ⟨Ak _,Ak _⟩).word).word
   ·exact h.word
   ·exact h.word
   exact h
  grind[Y8.redex]
 repeat' split
 ·exact B.mono C
 ·unfold Qa4
  simp only;refine(Qie H _ _ _ _ _ K (Aj _) ?_).mono (by omega);refine Y8.take (Y8.take B ?_) ?_
  ·exact⟨E.1,Ak _⟩
  exact⟨E.1,Ak _⟩
 ·exact(Qhp _ _ B).mono C
 ·refine Y8.mono (B.take ?_) C
  split
  ·exact⟨Ak _,Ak _⟩
  grind[aD,aW]
 ·refine Y8.mono ?_ C
  unfold Jx;simp only;have F:=Qdx (l:=aL (Q7 (mC m) b)) (B.take (y:=(12,aL (Q7 (mC m) b),Vx (Q7 (mC m) a) (Q7 (mC m) b),[],[])) ⟨Ak _,Ak _⟩) (aW (Q7 (mC m) a));split
  ·exact F
  exact(Q9y (λm i h=>h.words (by simp[Q1r];omega)) _ _ F).redex
 exact B.mono C
def Qk7(bk m F a b):(mC (Yz bk m F a b).1).length=(mC m):=by
 have B:∀ {α:Type} {f:Qyb×List Qy3->α->Qyb×List Qy3} (_:∀s a,(mC (f s a).1).length=(mC s.1)) (l:List α) (s:Qyb×List Qy3),(mC (l.foldl f s).1).length=(mC s.1):=λB l=>by
  induction l with
  |nil=>intro s;rfl
  |cons a r ih=>intro s;rw[Cb,ih];exact B s a
 have G:∀ {α:Type} {f:Qyb->α->Qyb} (_:∀s a,(mC (f s a)).length=(mC s)) (l:List α) (s:Qyb),(mC (l.foldl f s)).length=(mC s):=λB l=>by
  induction l with
  |nil=>intro s;rfl
  |cons a r ih=>intro s;rw[Cb,ih];exact B s a
 have H:∀ {α:Type} {f:Qyb×Wd->α->Qyb×Wd} (_:∀s a,(mC (f s a).1).length=(mC s.1)) (l:List α) (s:Qyb×Wd),(mC (l.foldl f s).1).length=(mC s.1):=λB l=>by
  induction l with
  |nil=>intro s;rfl
  |cons a r ih=>intro s;rw[Cb,ih];exact B s a
 have E:∀(m:Qyb) (l:Int) (n:Nat),(mC (Yy m l n).1).length=(mC m):=λm l n=>by
  induction n with
  |zero=>rfl
  |succ n ih=>show(mC (Qi _ _)).length=_;rw[Qg,ih]
 have J:∀(n:Qy0) (l:Int) (m:Qyb) (j:Nat),(mC (Jg n l m j)).length=(mC m):=λn l m j=>by
  induction j with
  |zero=>rfl
  |succ j ih=>show(mC (Qi _ _)).length=_;rw[Qg,ih]
 have K:∀(m:Qyb) (i k:Int) (x:Wd),(mC (Qm m i k x)).length=(mC m):=λm i k x=>Q01 _ _;have C:(mC (Qd (Qd m a) b)).length=(mC m):=by rw[Za,Za]
 unfold Yz;simp only;split
 ·unfold V2
  simp only;have L:(mC (V8 (V2.netOf' bk (aV (Q7 (mC m) a))) (aL (Q7 (mC m) a)) (1,b) (Qd m a)).1).length=(mC m):=by grind[V8,Q58,Za,Yj,Qw,Qg]
  grind[Q58]
 repeat' split
 ·exact C
 ·grind[Qa4,Zq,Qg,J4,Qa,Qw,Q01]
 ·grind[Ym,Qg]
 ·show(mC (Qi _ _)).length=_;rw[Qg,C]
 ·unfold Jx
  simp only;split
  ·rw[E,Qg,C]
  rw[Q58,G (f:=Zr _ _ _) (λs i=>Q01 _ _),E,Qg,C]
 exact C
structure Q0p (p:Ye):Prop where
 c:Y8 3000 (pM p)
 n:(mC (pM p)).length<=1500
 x:(mX (pM p)).length<=1000000
 w:(pW p).length<=4
 wk:∀v∈pW p,(wX v).length<=4000000/\(wL v).length<=4000000/\(wC v).length<=7
def Q0p.dsz{p}(h:Q0p p):Qyv Qv p<=100000000:=by
 have F:=Q7w (e:=Q4) (B:=6000) (mC (pM p)) λc C=>by rw[Qge];have:=h.c c C;omega
 have G:=Q7w (e:=Qh) (B:=8000007) (pW p) λv E=>by rw[Q9g];have:=h.wk v E;omega
 have H:=h.n;have J:=h.x;have K:=h.w;rw[Qli,Qq9];omega
theorem MS.put_self{S:MS}{i:Int}(h:i.toNat<S.Fs):S.put i (S.Fs.getD i.toNat [])=S:=by
 unfold MS.put;simp_all
def Zh.wordAt{w pb Y m S}(h:Zh w pb Y m S){i:Int}(d:i.toNat<(mC m)){k:Nat}(f:k<(aW (Q7 (mC m) i))):
  ∃(B ow E:Nat),(w,S.cb,S.o+i.toNat * 5+4,A (R (B,ow)) (aW (Q7 (mC m) i)) E)/\((w,B,ow+k * 2,I Z ((aW (Q7 (mC m) i)).getD k (0,0)).1)/\(w,B,ow+k * 2+1,I Z ((aW (Q7 (mC m) i)).getD k (0,0)).2))/\(∀q,w.frozen? ⟨B,q,N⟩=Bm)/\(B∈S.all/\B≠pb/\B≠S.cb)/\(aW (Q7 (mC m) i))<=E/\
   ∀t a,Qyn t->Qyn a->Zh ((w.setCell (B,ow+k * 2) t).setCell (B,ow+k * 2+1) a) pb Y (Qa m i ((aW (Q7 (mC m) i)).set k (t,a))) S:=by
 obtain⟨us,x,z,A0⟩:=h.cell d;obtain⟨pd,cd,pw,E,L,M,rfl,F,g,j,i1,i2,i3⟩:=A0.agent;obtain⟨u0,u1,u2,u3,l⟩:=Q5v z;have n:=Ar.1 h.nodup;have p:S.cb∉S.Fs.flatten++S.Fx/\(S.Fs.flatten++S.Fx).Nodup:=Ar.1 n.2;have A8:=h.cells.len;have O:i.toNat<S.Fs:=by omega
 have P:(L++M).Nodup:=F▸Qj3 (Qxw p.2).1 O;have r:∀b∈L++M,b∈S.Fs.flatten:=λb C=>Zv O (F▸C);have s:∀b∈L++M,b∈S.all:=λb C=>Aa _ (Ag _ (r b C));have A1:(aW (Q7 (mC m) i))<=E:=by obtain⟨_,_,he,h1,_⟩:=Jh j.rd;simp only[List.cons.injEq,Value.slice.injEq,and_true]at he;omega
 obtain⟨B,ow,us,G,rfl,H,A9,AA,AB,AC,x,A2,A3,u,A4⟩:=j.focus (Qxw P).2.1 k f;have A5:=Va (t:=Q5) rfl u;subst A5;have hg:(aW (Q7 (mC m) i)).getD k (0,0)=(aW (Q7 (mC m) i))[k]:=by rw[Ab,Ad f];rfl
 obtain⟨_,_,_,_,rfl,-,⟨rfl,j0,-⟩,⟨rfl,j1,-⟩⟩:=u;obtain⟨T,U⟩:=Qg6 A2;simp only[Ty.sz,Bj]at T U;have V:B≠pb/\B≠S.cb:=⟨λe=>n.1 (e▸s B (Af _ H)),λe=>p.1 (e▸Ag _ (r B (Af _ H)))⟩;refine⟨B,ow,E,l,by rw[hg];exact⟨T,U⟩,A3,⟨s B (Af _ H),V⟩,A1,λt a ht ha=> ?_⟩;have J:Q1 (λc=>c=B) w ((w.setCell (B,ow+k * 2) t).setCell (B,ow+k * 2+1) a):=Vf (X:=λc=>c=B) (Q1.refl _ _) rfl _ _;have A6:Qy2 ((w.setCell (B,ow+k * 2) t).setCell (B,ow+k * 2+1) a) B (ow+k * 2) [t,a]:=by
  refine Q76 ?_ (Bx _ _ _ (?_:Er _ _=R (I Z (aW (Q7 (mC m) i))[k].2)))
  ·rw[Df _ _ _ _ (by intro e;simp only[Cq,and_true,true_and]at e;omega)];exact Bx _ _ _ T
  rw[Df _ _ _ _ (by intro e;simp only[Cq,and_true,true_and]at e;omega)];exact U
 have A7:=A4 _ [t,a] (t,a) (J.mono λc W=> .inl W) (by have:=((Qc.refl B (ow+k * 2) 2 w).set (ow+k * 2) (by omega) t).set (ow+k * 2+1) (by omega) a;simpa[Ty.sz]using this) (by simpa[Ty.sz]using A6) (Ow.word ht ha);have K:∀q,((w.setCell (B,ow+k * 2) t).setCell (B,ow+k * 2+1) a).cell? ⟨S.cb,q,N⟩=w.cell? ⟨S.cb,q,N⟩:=λq=>J.cell h.cells.blk.lt (λe=>V.2 e.symm) q
 have v:=h.turnC d (us':=[(aK (Q7 (mC m) i)),(aL (Q7 (mC m) i)),(aV (Q7 (mC m) i)),A pd (aD (Q7 (mC m) i)) cd,A (R (B,ow)) (aW (Q7 (mC m) i)) E]) (y:=(aK (Q7 (mC m) i),aL (Q7 (mC m) i),aV (Q7 (mC m) i),aD (Q7 (mC m) i),(aW (Q7 (mC m) i)).set k (t,a))) (G:=L++M)
  (J.mono λc W=> .inr (by rw[W,F];exact Af _ H)) (Qc.of_frame J (λe=>V.2 e.symm) _ _) (Q1n ((K _).trans u0) ((K _).trans u1) ((K _).trans u2) ((K _).trans u3) ((K _).trans l))
  (Ow.mkAgent i1 i2 i3 (g.frame J λb C=>⟨g.lt b C,λe=>(Qxw P).2.2 b C (e▸H)⟩) A7) P (λb C=> .inl (F▸C))
 rw[<-F,MS.put_self O]at v;exact v
def Qn.wordAt{E w F S pb G m l}(h:Qn E F pb G w m S l){i:Int}(K:i.toNat<(mC m))(L:i.toNat∉l){k:Nat}(M:k<(aW (Q7 (mC m) i))):
  ∃(B ow C:Nat),(w,S.cb,S.o+i.toNat * 5+4,A (R (B,ow)) (aW (Q7 (mC m) i)) C)/\((w,B,ow+k * 2,I Z ((aW (Q7 (mC m) i)).getD k (0,0)).1)/\(w,B,ow+k * 2+1,I Z ((aW (Q7 (mC m) i)).getD k (0,0)).2))/\(∀q,w.frozen? ⟨B,q,N⟩=Bm)/\(B∈S.all/\B≠pb/\B≠S.cb)/\(aW (Q7 (mC m) i))<=C/\
   ∀t a,Qyn t->Qyn a->Qn E F pb G ((w.setCell (B,ow+k * 2) t).setCell (B,ow+k * 2+1) a) (Qa m i ((aW (Q7 (mC m) i)).set k (t,a))) S l:=by
 obtain⟨B,ow,C,O,P,T,H,U,V⟩:=h.mem.wordAt K M;refine⟨B,ow,C,O,P,T,H,U,λt a W X=> ?_⟩;have J:Q1 (λc=>c∈S.all) w ((w.setCell (B,ow+k * 2) t).setCell (B,ow+k * 2+1) a):=Vf (Q1.refl _ _) H.1 _ _;exact h.step (V t a W X) (Q90 h.free L) (Q4e.refl _ _) (J.mono λc Y=> .inr Y) (Qc.of_frame J (Ar.1 h.mem.nodup).1 _ _)
def Q21.turnX{w w2 C o Y cs B}(h:Q21 w C o Y cs B){i:Nat}(m:i<cs){us'}{y:Qxb}{G X}(n:Q1 X w w2)(hX:∀c,X c->c=C\/c∈B.getD i []\/c∉C::B.flatten)(p:Qc C (o+i * 5) 5 w w2)(q:Qy2 w2 C (o+i * 5) us')(a:Ow Qh w2 us' y G)(r:G.Nodup)(M:∀b∈G,b∈B.getD i []\/b∉C::B.flatten):Q21 w2 C o Y (cs.set i y) (B.set i G):=by
 have s:=h.lt;obtain⟨cur,T,J,K,t,u,v,x,z⟩:=h;have O:=Ar.1 x;obtain⟨U,d,A0,A1⟩:=p cur T J;have A2:=a.length;have A4:us'.length=5:=A2;have A5:o+i * 5+5<=cur.size:=by omega
 have A3:=Dw.1 O.2;have f:∀j,j<cs.length->j≠i->∀c∈B.getD j [],c∉B.getD i []:=by
  intro j E V c F g;have J:i<B:=by omega
  have K:j<B.length:=by omega
  have M:=Du.1 A3.2;rcases Et V with h|h
  ·exact M j i K J h c (by rwa [Ab,Ad K]at F) c (by rwa [Ab,Ad J]at g) rfl
  exact M i j J K h c (by rwa [Ab,Ad J]at g) c (by rwa [Ab,Ad K]at F) rfl
 have L:∀j,j<cs.length->∀c∈B.getD j [],c∈B.flatten:=λj E c F=>Zv (by omega) F;refine⟨U,T,d,by rw[Bl];exact K,t,by rw[A0];exact u,by rw[Bl,Bl];exact v, ?_,λj E=> ?_⟩
 ·rw[Ar]
  refine⟨λP=> ?_,Q2p O.2 r λb hb j E V l=> ?_⟩
  ·rcases Jc P with P|⟨j,E,_,P⟩
   ·rcases M C P with h|h
    ·exact O.1 (L i m C h)
    exact h Ae
   exact O.1 (L j (by omega) C P)
  rcases M b hb with h|h
  ·exact f j (by omega) V b l h
  exact h (Aa _ (L j (by omega) b l))
 rw[Bl]at E;rw[Qbb (by omega)];by_cases S:i=j
 ·subst S
  rw[if_pos rfl];have W:Q17 U (o+i * 5) 5=us':=by
   apply Eb;intro k;unfold Q17;rw[Cm];by_cases H:k<5
   ·rw[if_pos H,Cu,Array.getElem?_toList]
    have:=q k (by omega);simp only[Er,d]at this;simp only[Option.isSome_none,Dc,if_false]at this;rw[this,Ad (by omega)]
   rw[if_neg H,List.getElem?_eq_none (by omega)]
  rw[W];simpa using a
 rw[if_neg S,List.getElem_set_ne S];have W:Q17 U (o+j * 5) 5=Q17 cur (o+j * 5) 5:=by
  apply Eb;intro k;unfold Q17;rw[Cm,Cm];by_cases H:k<5
  ·rw[if_pos H,if_pos H,Cu,Cu,Array.getElem?_toList,Array.getElem?_toList]
   exact A1 _ (by omega)
  rw[if_neg H,if_neg H]
 rw[W];refine(z j E).kept λc F=>n.block c (s c (Aa _ (L j E c F))) λe=> ?_;rcases hX c e with e|e|e
 ·exact O.1 (e▸L j E c F)
 ·exact f j E (λe'=>S e'.symm) c F e
 exact e (Aa _ (L j E c F))
def Y2.redo{w w' pb J p P}(h:Y2 w pb J p P){k}(q:k<(pW p).length){X S' us'}{y:Qxb}{G}(E:Zh w' pb J X S')(Y:Q1 (λc=>c=pb\/c=P.wb\/c∈P.S.all\/c∈P.Fw.getD k []) w w')(r:Qc P.wb (P.wo+k * 5) 5 w w')(d:Qc pb J 5 w w')(s:Qy2 w' P.wb (P.wo+k * 5) us')(t:Ow Qh w' us' y G)(u:G.Nodup)(K:∀b∈G,(b∈P.S.all\/b∈P.Fw.getD k []\/w.heap.size<=b)/\b∉pb::S'.all)(M:∀b∈S'.all,b∈P.S.all\/b∈P.Fw.getD k []\/w.heap.size<=b):∃v,Z4 w P pb J w' (X,(pW p).set k y,pA p) v:=by
 obtain⟨f,F⟩:=h.ap;have A0:=h.wks.len;have H:=h.lt;have g:∀b∈P.Fw.getD k [],b∈P.Fw.flatten:=λb B=>Zv (by omega) B;have O:∀b∈P.Fw.getD k [],b∈P.all:=λb B=>Af _ (Aa _ (g b B));have T:∀b,w.heap.size<=b->b∉pb::P.all:=λb B E=>by have:=H b E;omega
 have U:∀b∈P.wb::P.Fw.flatten,b∈pb::P.all:=λb B=>Aa _ (Af _ B);have i:=h.wks.turnX q Y (λc V=>by
  rcases V with e|e|e|e
  ·exact .inr (.inr (e▸F pb Ae))
  ·exact .inl e
  ·exact .inr (.inr (F c (Aa _ e)))
  ·exact .inr (.inl e)) r s t u (λb B=>by
  rcases(K b B).1 with e|e|e
  ·exact .inr (F b (Aa _ e))
  ·exact .inl e
  ·exact .inr λE=>T b e (U b E))
 have l:=Ar.1 h.wks.nodup;have x:=l.2;have m:=Ar.1 E.nodup;have z:∀b∈S'.all,b∉P.wb::(P.Fw.set k G).flatten:=by
  intro b B C;rcases Aq.1 C with e|C
  ·subst e
   rcases M _ B with e|e|e
   ·exact F _ (Aa _ e) Ae
   ·exact l.1 (g _ e)
   ·exact T _ e (U _ Ae)
  ·rcases Jc C with hg|⟨j,hj,hji,hj2⟩
   ·exact(K b hg).2 (Aa _ B)
   ·have n:=Zv hj hj2
    rcases M _ B with e|e|e
    ·exact F _ (Aa _ e) (Aa _ n)
    ·have W:=Dw.1 x
     have o:=Du.1 W.2;have L:k<P.Fw.length:=by omega
     rcases Et hji with H|H
     ·exact o j k hj L H b (by rwa [Ab,Ad hj]at hj2) b (by rwa [Ab,Ad L]at e) rfl
     ·exact o k j L hj H b (by rwa [Ab,Ad L]at e) b (by rwa [Ab,Ad hj]at hj2) rfl
    ·exact T _ e (U _ (Aa _ n))
 have W:pb∉P.wb::(P.Fw.set k G).flatten:=by
  intro C;rcases Aq.1 C with e|C
  ·exact(f _ Ae).1 e.symm
  ·rcases Jc C with hg|⟨j,hj,hji,hj2⟩
   ·exact(K _ hg).2 Ae
   ·exact(f _ (Aa _ (Zv hj hj2))).1 rfl
 refine⟨⟨S',P.wb,P.wo,P.wcap,P.Fw.set k G⟩,⟨E, ?_,Q1m h.c6 h.mem.blk d (by omega),h.i64,i, ?_⟩,⟨rfl,rfl,λb B=> ?_⟩,Y.mono λc V=> ?_⟩
 ·show _=R (A _ ((pW p).set k y).length _)
  rw[Bl];exact Q1m h.c5 h.mem.blk d (by omega)
 ·show(pb::(S'.all++P.wb::(P.Fw.set k G).flatten)).Nodup
  rw[Ar,Ba];refine⟨λhx=>(At0.1 hx).elim m.1 W,m.2,i.nodup,λa ha b B e=>z a ha (e▸B)⟩
 ·rcases At0.1 B with B|B
  ·rcases M b B with e|e|e
   ·exact .inl (Ag _ e)
   ·exact .inl (O b e)
   ·exact .inr e
  ·rcases Aq.1 B with e|B
   ·exact .inl (e▸PS.wb_all)
   ·rcases Jc B with hg|⟨j,hj,hji,hj2⟩
    ·rcases(K b hg).1 with e|e|e
     ·exact .inl (Ag _ e)
     ·exact .inl (O b e)
     ·exact .inr e
    ·exact .inl (Af _ (Aa _ (Zv hj hj2)))
 ·rcases V with e|e|e|e
  ·exact .inl e
  ·exact .inr (e▸PS.wb_all)
  ·exact .inr (Ag _ e)
  ·exact .inr (O c e)
def Y2.lend{w W pb J p P}(h:Y2 w pb J p P){k}{g:Nat}(i:w<=g){px cx E}(F:Q1 (λ_=>False) w W){K}{T:TypeId}(C:W.heap[g]?=R (.cells #[A (R (P.S.cb,P.S.o)) (mC (pM p)) P.S.cap,(mF (pM p)),I Z (mR (pM p)).1,I Z (mR (pM p)).2,A px (wX (Q3 p k)) cx,K] T))(G:Ow (.slice Q5) w [A px (wX (Q3 p k)) cx] (wX (Q3 p k)) E)(L:E.Nodup)(H:∀b∈E,b∈P.all/\b≠pb/\b≠P.wb/\b∉P.S.all):
  Zh W g 0 (mC (pM p),mF (pM p),mR (pM p),wX (Q3 p k)) ⟨P.S.cb,P.S.o,P.S.cap,P.S.Fs,E⟩:=by
 have M:=h.lt;have O:=G.lt;obtain⟨_,_,-,-,-,-,-,U,V,X,-⟩:=h.mem.head;have Y:=Ar.1 (Ar.1 h.mem.nodup).2;have c:=Ba.1 Y.2;refine⟨px,cx,⟨_,T,C⟩,Q1n (Q6 C rfl) (Q6 C rfl) (Q6 C rfl) (Q6 C rfl) (Q6 C rfl),U,V,X,h.mem.cells.frame F (λ_ _ h=>h),G.frame F (λb B=>⟨O b B,λh=>h⟩), ?_⟩;show(g::P.S.cb::(P.S.Fs.flatten++E)).Nodup;have d:∀b,b∈P.S.cb::(P.S.Fs.flatten++E)->b∈pb::P.all:=λb B=>by
  rcases Aq.1 B with e|B
  ·exact Aa _ (Ag _ (e▸Ae))
  rcases At0.1 B with B|B
  ·exact Aa _ (Ag _ (Aa _ (Ag _ B)))
  grind
 rw[Ar,Ar,Ba];refine⟨λB=>by have:=M _ (d _ B);omega,λB=> ?_,c.1,L,λa f b C e=>(H b C).2.2.2 (e▸Aa _ (Ag _ f))⟩;rcases At0.1 B with B|B
 ·grind
 exact(H _ B).2.2.2 Ae
def Qtt{a w b}{o:Nat}{v}(h:Q1 (λc=>c=b) a w):Q1 (λc=>c=b) a (w.setCell (b,o) v):=h.setCell rfl v
def Qgf{f:Wd->Prop}{l}(B:f l.1)(C:f l.2):f (Q2f l).1/\f (Q2f l).2:=by
 grind[Q2f]
theorem Rd.tail{e w}{b:Nat}{o n c}{xs:List e.den}(h:Rd (.slice e) w [A (R (b,o)) n c] xs)(G:0<n)(H:1<c):Rd (.slice e) w [A (R (b,o+e.sz)) (n-1) (c-1)] (xs.drop 1:List e.den):=by
 refine⟨_,rfl,.inr ?_⟩;obtain⟨v,B,h⟩:=h;obtain rfl:=List.cons.inj B|>.1;rcases h with⟨h,_⟩|⟨b',o',c',C,J,K,E⟩
 ·simp at h
 obtain⟨⟨rfl,rfl⟩,rfl,rfl⟩:=C;refine⟨b,o+e.sz,c-1,by rw[Dp],by rw[Dp];omega,by omega,λi F=> ?_⟩;rw[Dp]at F;obtain⟨cs,L,M,O⟩:=E (i+1) (by omega);grind
theorem Rd.none1{e w a}(B:a.spot=N):Rd (.slice e) w [A (R a) 0 0] ([]:List e.den):=by
 obtain⟨b,o,s⟩:=a;subst B;exact⟨_,rfl,.inr ⟨b,o,0,rfl,Aj _,Ak _,λi C=>by simp at C⟩⟩
theorem Qs{w:Bh}{b i j:Nat}{v:Bk}(h:i≠j):(w.setCell (b,i) v).cell? (b,j)=w.cell? (b,j):=Df _ _ _ _ (by intro e;simp only[Cq,and_true,true_and]at e;omega)
def Qld{w:Bh}{b o F G H J}(K:w.cell? (b,o)=R F)(L:w.cell? (b,o+1)=R G)(M:w.cell? (b,o+2)=R H)(O:w.cell? (b,o+3)=R J)(B v1 C E):
  Qy2 ((((w.setCell (b,o) B).setCell (b,o+1) v1).setCell (b,o+2) C).setCell (b,o+3) E) b o [B,v1,C,E]:=
 Qaf ((Qs (by omega)).trans ((Qs (by omega)).trans ((Qs (by omega)).trans (Bx _ _ _ K))))
  ((Qs (by omega)).trans ((Qs (by omega)).trans (Bx _ _ _ ((Qs (by omega)).trans L))))
  ((Qs (by omega)).trans (Bx _ _ _ ((Qs (by omega)).trans ((Qs (by omega)).trans M))))
  (Bx _ _ _ ((Qs (by omega)).trans ((Qs (by omega)).trans ((Qs (by omega)).trans O))))
def Qtg{w:Bh}{g}{h:Nat}{T J K G H}(L:w.heap[g]?=R (.cells #[J,K] T))(M:w.heap[h]?=R (.cells #[G,H] T))(E:g≠h){B C F v1:Bk}:
  ((((w.setCell (g,0) B).setCell (g,1) C).setCell (h,0) F).setCell (h,1) v1).heap[g]?=R (.cells #[B,C] T)/\((((w.setCell (g,0) B).setCell (g,1) C).setCell (h,0) F).setCell (h,1) v1).heap[h]?=R (.cells #[F,v1] T):=by
 have O:=Vs L B C;have P:((w.setCell (g,0) B).setCell (g,1) C).heap[h]?=R (.cells #[G,H] T):=by rw[Es _ _ _ _ (λe=>E e.symm),Es _ _ _ _ (λe=>E e.symm)];exact M
 refine⟨?_,Vs P F v1⟩;rw[Es _ _ _ _ (λe=>E e),Es _ _ _ _ (λe=>E e)];exact O
def Qy7.poolShape{B w vs}{p:Ye}(h:Qy7 Qv B w vs p)(J:mC (pM p)≠ [])(K:pW p≠ []):∃(P:PS) (px:Option Cp) (cx:Nat),
  vs=[A (R (P.S.cb,P.S.o)) (mC (pM p)) P.S.cap,(mF (pM p)),I Z (mR (pM p)).1,I Z (mR (pM p)).2,A px (mX (pM p)) cx,A (R (P.wb,P.wo)) (pW p) P.wcap,(pA p)]/\
   (Qyn (mF (pM p))/\Qyn (mR (pM p)).1/\Qyn (mR (pM p)).2/\Qyn (pA p))/\Ji w P.S.cb P.S.o P.S.cap (mC (pM p)) P.S.Fs/\Ow (.slice Q5) w [A px (mX (pM p)) cx] (mX (pM p)) P.S.Fx/\Q21 w P.wb P.wo P.wcap (pW p) P.Fw/\P.all.Nodup/\∀b∈P.all,B<=b/\b<w.heap.size:=by
 obtain⟨F,o,n,r⟩:=h;obtain⟨_,_,_,_,rfl,rfl,⟨_,_,_,_,rfl,rfl,C,_,_,_,_,rfl,rfl,⟨rfl,L,rfl⟩,_,_,_,_,rfl,rfl,⟨_,_,_,_,rfl,rfl,⟨rfl,M,rfl⟩,⟨rfl,O,rfl⟩⟩,E⟩,_,_,_,_,rfl,rfl,G,⟨rfl,T,rfl⟩⟩:=o;obtain⟨k,U,rfl,C⟩:=V5 C;obtain⟨px,cx,rfl,E⟩:=V5 E;obtain⟨l,V,rfl,G⟩:=V5 G;simp only[Cl,List.nil_append]at n r;have H:=Qxw n;have W:=Qxw H.1;obtain⟨X,Y,m,a,c,rfl,d⟩:=Ji.of_ow C W.1 J;obtain⟨e,f,q,g,i,rfl,j⟩:=Q21.of_ow G H.2.1 K;obtain⟨rfl,-,rfl⟩:=c;obtain⟨rfl,-,rfl⟩:=i;exact⟨⟨⟨X,Y,U,a,_⟩,e,f,V,g⟩,px,cx,rfl,⟨L,M,O,T⟩,d,E,j,n,r⟩
def Y2.ofBox{B w vs}{p:Ye}{T:TypeId}(h:Qy7 Qv B w vs p)(K:mC (pM p)≠ [])(L:pW p≠ []):∃P,Y2 (w.alloc (.cells vs.toArray T)) w 0 p P/\∀b∈P.all,B<=b:=by
 obtain⟨P,px,cx,rfl,⟨M,O,U,V⟩,X,H,Y,J,F⟩:=h.poolShape K L;have G:Q1 (λ_=>False) w (w.alloc (.cells [A (R (P.S.cb,P.S.o)) (mC (pM p)) P.S.cap,(mF (pM p)),I Z (mR (pM p)).1,I Z (mR (pM p)).2,A px (mX (pM p)) cx,A (R (P.wb,P.wo)) (pW p) P.wcap,(pA p)].toArray T)):=(Q1.refl _ _).alloc _;have C:=heap_alloc_new w (.cells [A (R (P.S.cb,P.S.o)) (mC (pM p)) P.S.cap,(mF (pM p)),I Z (mR (pM p)).1,I Z (mR (pM p)).2,A px (mX (pM p)) cx,A (R (P.wb,P.wo)) (pW p) P.wcap,(pA p)].toArray T);generalize w.alloc (.cells [A (R (P.S.cb,P.S.o)) (mC (pM p)) P.S.cap,(mF (pM p)),I Z (mR (pM p)).1,I Z (mR (pM p)).2,A px (mX (pM p)) cx,A (R (P.wb,P.wo)) (pW p) P.wcap,(pA p)].toArray T)=W at *
 have a:(w.heap.size::P.all).Nodup:=Ar.2 ⟨λE=>by have:=(F _ E).2;omega,J⟩;have c:P.S.all.Nodup/\P.wb::P.Fw.flatten=P.wb::P.Fw.flatten:=⟨(Qxw J).1,rfl⟩;refine⟨P,⟨⟨px,cx,⟨_,T,C⟩,Q1n (Q6 C rfl) (Q6 C rfl) (Q6 C rfl) (Q6 C rfl) (Q6 C rfl),M,O,U,X.frame G (λ_ _ h=>h),H.frame G (λb E=>⟨H.lt b E,λh=>h⟩),Ar.2 ⟨λE=> ?_,c.1⟩⟩,Q6 C rfl,Q6 C rfl,V,Y.frame G (λ_ _ h=>h),a⟩,λb E=>(F b E).1⟩;have:=(F _ (Ag _ E)).2;omega
def Y2.shut{B w pb C p P}(h:Y2 w pb C p P)(H:∀b∈P.all,B<=b):∃(px:Option Cp) (cx:Nat),
  ((w,pb,C,A (R (P.S.cb,P.S.o)) (mC (pM p)) P.S.cap)/\(w,pb,C+1,(mF (pM p)))/\(w,pb,C+2,I Z (mR (pM p)).1)/\(w,pb,C+3,I Z (mR (pM p)).2)/\(w,pb,C+4,A px (mX (pM p)) cx)/\(w,pb,C+5,A (R (P.wb,P.wo)) (pW p) P.wcap)/\(w,pb,C+6,(pA p)))/\
  ∃F,Ow Qv w [A (R (P.S.cb,P.S.o)) (mC (pM p)) P.S.cap,(mF (pM p)),I Z (mR (pM p)).1,I Z (mR (pM p)).2,A px (mX (pM p)) cx,A (R (P.wb,P.wo)) (pW p) P.wcap,(pA p)] p F/\F.Nodup/\∀b∈F,B<=b/\b<w.heap.size/\b≠pb:=by
 have J:=h.lt;have G:=Ar.1 h.nd;obtain⟨px,cx,K,L,M,O,T,U,V,W,X⟩:=h.mem.head;have Y:=h.mem.cells.ow;have a:=h.wks.ow;refine⟨px,cx,⟨K,L,M,O,T,h.c5,h.c6⟩,P.all,⟨[A (R (P.S.cb,P.S.o)) (mC (pM p)) P.S.cap,(mF (pM p)),I Z (mR (pM p)).1,I Z (mR (pM p)).2,A px (mX (pM p)) cx],[A (R (P.wb,P.wo)) (pW p) P.wcap,(pA p)],P.S.all,P.wb::P.Fw.flatten,rfl,rfl, ?_, ?_⟩,G.2,λb E=>⟨H b E,J b (Aa _ E),λe=>G.1 (e▸E)⟩⟩
 ·exact⟨[_],_,P.S.cb::P.S.Fs.flatten,P.S.Fx,rfl,rfl,Y,[_],_,[],P.S.Fx,rfl,rfl,⟨rfl,U,rfl⟩,[_,_],[_],[],P.S.Fx,rfl,rfl,⟨[_],[_],[],[],rfl,rfl,⟨rfl,V,rfl⟩,⟨rfl,W,rfl⟩⟩,X⟩
 exact⟨[_],[_],P.wb::P.Fw.flatten,[],rfl,(Cl _).symm,a,⟨rfl,h.i64,rfl⟩⟩
def Ty.low:Ty->Bool
 | .int=>Bn
 | .bool=>Bn
 | .pair a b=>Ty.low a && Ty.low b
 | .slice e=>decide (e.sz<=7) && Ty.low e
def Qf1:(t:Ty)->Ty.low t=Bn->(x:t.den)->Vh t x<=t.sz+7 * Qyv t x
 | .int,_,_=>by simp[Vh,Ty.sz,Qyv]
 | .bool,_,_=>by simp[Vh,Ty.sz,Qyv]
 | .pair a b,h,x=>by simp only[Ty.low,Bi]at h;have B:=Qf1 a h.1 x.1;have C:=Qf1 b h.2 x.2;simp only[Vh,Ty.sz,Qyv];omega
 | .slice e,h,xs=>by
  simp only[Ty.low,Bi,decide_eq_true_eq]at h;have:∀l:List e.den,(List.map (Vh e) l).sum<=7 * l.length+7 * (List.map (Qyv e) l).sum:=by
   intro l;induction l with
   |nil=>simp
   |cons a r ih=>have B:=Qf1 e h.2 a;simp only[Ga,Gm,Br];omega
  grind[Vh,Qyv]
def Qb7{e:Ty}(h:Ty.low (.slice e)=Bn)(xs:List e.den):Y3 e xs<=1+7 * Qyv (.slice e) xs:=Qf1 (.slice e) h xs
def Qzp{e:Ty}{B:Nat}:∀ {xs:List e.den},(∀x∈xs,Vh e x<=B)->Y3 e xs<=xs * B
 | [],_=>by simp[Y3]
 |a::r,h=>by
  have E:=h a Ae;have F:=Qzp (xs:=r) λx C=>h x (Aa _ C);unfold Y3 at *
  simp only[Ga,Gm,Br,Nat.add_mul]at *
  omega
theorem Qax:∀xs:List Int,Y3 .int xs=xs
 | []=>rfl
 |a::r=>by
  have:=Qax r;unfold Y3 at *
  rw[Ga,Gm,this,Br,show Vh .int a=1 from rfl];omega
def Qzq(xs:List Wd):Y3 Q5 xs<=xs * 2:=Qzp λx _=>by simp[Vh]
def Qzr(xs:List Qy3):Y3 Z7 xs<=xs * 4:=Qzp λx _=>by simp[Vh]
end Go.Proofs.YtcjngpfigpglfaaGreatDoor
