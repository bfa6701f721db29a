import Derived.Test.YthbpkpnioaniiaaGreatP19
set_option maxHeartbeats 40000000
set_option maxRecDepth 100000
set_option linter.all false
namespace Go.Proofs.YthbpkpnioaniiaaGreat
open Go.RowKit Go.Proofs.Tryz
open Go.Value renaming int->I,slice->A
open Go.IntKind renaming i64->Z
open Option renaming none->N,some->R
open List renaming replicate->Cl,length_drop->Df,length_take->Cj,ext_getElem?->Du,getElem?_take->Cu,getElem?_drop->Ct,pairwise_flatten->Dv,pairwise_iff_getElem->Do,length_set->Br,foldl_cons->Ce
open Nat renaming add_mul->Hn,lt_or_gt_of_ne->En
theorem Qc8:∀(B:List (List Nat)),(∀i,i<B.length->B.getD i []=[])->B.flatten=[]
 | [],_=>rfl
 |a::r,h=>by have C:=h 0 (by simp);simp only[List.getD_cons_zero]at C;rw[List.flatten_cons,C,Qc8 r λi E=>by have:=h (i+1) (by simp only[List.length_cons];omega);simpa using this];rfl
theorem Ow.flatBlk{e:Ty}{w:World}{b o n c:Nat}{xs:List e.den}{F:List Nat}(h:Ow (.slice e) w [A (R ⟨b,o,N⟩) n c] xs F)(L:e.flat=true)(V:0<n):
  F=[b]/\n=xs.length/\n<=c/\∃(B:Array Value) (T:TypeId),c<=maxLen/\w.heap[b]?=R (.cells B T (0,0))/\o+c * e.sz<=B.size/\∀(i:Nat) (h:i<xs.length),Ow e w ((B.toList.drop (o+i * e.sz)).take e.sz) xs[i] []:=by
 obtain⟨v,M,h⟩:=h;obtain rfl:=(List.cons.inj M).1;rcases h with⟨W,G,a,C,X⟩|⟨Y,o',d,B,T,E,C,O,P,S,U,G,f,H⟩
 ·simp only[Value.slice.injEq]at C;omega
 ·simp only[Value.slice.injEq,Option.some.injEq,Addr.mk.injEq,and_true]at C
  obtain⟨⟨rfl,rfl⟩,rfl,rfl⟩:=C;have J:∀i,i<E.length->E.getD i []=[]:=λi K=>Jt L (H i (by omega));refine⟨by rw[G,Qc8 E J],rfl,O,B,T,P,S,U,λi K=> ?_⟩;have:=H i K;rw[J i (by omega)]at this;exact this
theorem Q9x(n i:Nat):(Cl n ([]:List Nat)).getD i []=[]:=by
 rw[Ab,List.getElem?_replicate];split<;>rfl
theorem Qda(n:Nat):(Cl n ([]:List Nat)).flatten=[]:=Qc8 _ λi _=>Q9x n i
theorem Ow.tail{e:Ty}{w:World}{b o n c:Nat}{xs:List e.den}{F:List Nat}(h:Ow (.slice e) w [A (R ⟨b,o,N⟩) n c] xs F)(B:e.flat=true)(C:0<n)(K:1<c):Ow (.slice e) w [A (R ⟨b,o+e.sz,N⟩) (n-1) (c-1)] (xs.drop 1:List e.den) F:=by
 obtain⟨rfl,rfl,L,E,T,M,G,O,H⟩:=h.flatBlk B C;refine⟨_,rfl,.inr ⟨b,o+e.sz,c-1,E,T,Cl (xs.length-1) [],by rw[Df],by rw[Df];omega,by omega,G, ?_,by rw[Qda],by simp,λi J=> ?_⟩⟩
 ·have:c * e.sz=(c-1) * e.sz+e.sz:=by rw[<-Nat.succ_mul];congr 1;omega
  omega
 ·rw[Df]at J
  rw[Q9x,List.getElem_drop,show o+e.sz+i * e.sz=o+(1+i) * e.sz by rw[Hn];omega];exact H (1+i) (by omega)
theorem Ow.none0{e:Ty}{w:World}{b o n c:Nat}{xs:List e.den}{F:List Nat}(h:Ow (.slice e) w [A (R ⟨b,o,N⟩) n c] xs F)(B:e.flat=true)(C:0<n):Ow (.slice e) w [A (R ⟨b,o,N⟩) 0 0] ([]:List e.den) F:=by
 obtain⟨rfl,rfl,J,E,T,K,G,L,M⟩:=h.flatBlk B C;exact⟨_,rfl,.inr ⟨b,o,0,E,T,[],rfl,Aj _,Ak _,G,by omega,rfl,rfl,λi H=>by simp at H⟩⟩
theorem Ow.rest{e:Ty}{w:World}{b o c:Nat}{xs:List e.den}{F:List Nat}(h:Ow (.slice e) w [A (R ⟨b,o,N⟩) xs.length c] xs F)(B:e.flat=true)(C:0<xs.length):
  Ow (.slice e) w [if 1=c then A (R ⟨b,o,N⟩) 0 0 else A (R ⟨b,o+e.sz,N⟩) (xs.length-1) (c-1)] (xs.drop 1:List e.den) F:=by
 obtain⟨-,-,G,-⟩:=h.flatBlk B C;by_cases E:1=c
 ·rw[if_pos E,List.drop_eq_nil_of_le (by omega)];exact h.none0 B C
 ·rw[if_neg E];exact h.tail B C (by omega)
theorem Ow.initSet{e:Ty}{w w':World}{b o c m:Nat}{xs:List e.den}{F:List Nat}(h:Ow (.slice e) w [A (R ⟨b,o,N⟩) xs.length c] xs F)(H:e.flat=true)(J:0<xs.length)(K:m<=xs.length)(L:Q9 b (o+m * e.sz) (c * e.sz) w w'):
  Ow (.slice e) w' [A (R ⟨b,o,N⟩) m c] (xs.take m:List e.den) F:=by
 obtain⟨rfl,-,X,E,T,M,C,Y,O⟩:=h.flatBlk H J;obtain⟨G,P,a,S⟩:=L E T C;refine⟨_,rfl,.inr ⟨b,o,c,G,T,Cl m [],by rw[Cj,Nat.min_eq_left K],by rw[Cj];omega,M,P,by omega,by rw[Qda],by simp;omega,λi U=> ?_⟩⟩;rw[Cj]at U;rw[Q9x,List.getElem_take];have V:=(O i (by omega)).kept (w':=w') (λb C=>by simp at C);have:(G.toList.drop (o+i * e.sz)).take e.sz=(E.toList.drop (o+i * e.sz)).take e.sz:=by
  apply Du;intro j;rw[Cu,Cu];by_cases B:j<e.sz
  ·rw[if_pos B,if_pos B,Ct,Ct,Array.getElem?_toList,Array.getElem?_toList]
   have W:(i+1) * e.sz<=m * e.sz:=Bd _ (by omega);rw[Hn]at W;exact S _ (by omega)
  ·rw[if_neg B,if_neg B]
 rw[this];exact V
theorem Q1f.turnX{w w2:World}{C o a:Nat}{cs:List Qqb}{B:List (List Nat)}(h:Q1f w C o a cs B){i:Nat}(n:i<cs.length){us':List Value}{y:Qqb}{G:List Nat}{X:Nat->Prop}
  (p:Q1 X w w2) (hX:∀c,X c->c=C\/c∈B.getD i []\/c∉C::B.flatten) (q:Q9 C (o+i * 5) 5 w w2) (r:Qqw w2 C (o+i * 5) us') (d:Ow Qc w2 us' y G) (s:G.Nodup)
  (M:∀b∈G,b∈B.getD i []\/b∉C::B.flatten):Q1f w2 C o a (cs.set i y) (B.set i G):=by
 have t:=h.lt;obtain⟨U,T,J,K,u,v,x,z,h7⟩:=h;have O:=Ar.1 z;obtain⟨V,f,A0,A1⟩:=q U T J;have A2:=d.length;have A4:us'.length=5:=A2;have A5:o+i * 5+5<=U.size:=by omega
 have A3:=Dv.1 O.2;have g:∀j,j<cs.length->j≠i->∀c∈B.getD j [],c∉B.getD i []:=by
  intro j E W c F l;have J:i<B.length:=by omega
  have K:j<B.length:=by omega
  have M:=Do.1 A3.2;rcases En W with h|h
  ·exact M j i K J h c (by rwa [Ab,Ad K]at F) c (by rwa [Ab,Ad J]at l) rfl
  ·exact M i j J K h c (by rwa [Ab,Ad J]at l) c (by rwa [Ab,Ad K]at F) rfl
 have L:∀j,j<cs.length->∀c∈B.getD j [],c∈B.flatten:=λj E c F=>Zu (by omega) F;refine⟨V,T,f,by rw[Br];exact K,u,by rw[A0];exact v,by rw[Br,Br];exact x, ?_,λj E=> ?_⟩
 ·rw[Ar]
  refine⟨λP=> ?_,Q1y O.2 s λb hb j E W m=> ?_⟩
  ·rcases Yv P with P|⟨j,E,_,P⟩
   ·rcases M C P with h|h
    ·exact O.1 (L i n C h)
    ·exact h Ae
   ·exact O.1 (L j (by omega) C P)
  ·rcases M b hb with h|h
   ·exact g j (by omega) W b m h
   ·exact h (Aa _ (L j (by omega) b m))
 ·rw[Br]at E
  rw[Q8u (by omega)];by_cases S:i=j
  ·subst S
   rw[if_pos rfl];have Y:Q25 V (o+i * 5) 5=us':=by
    apply Du;intro k;unfold Q25;rw[Cu];by_cases H:k<5
    ·rw[if_pos H,Ct,Array.getElem?_toList]
     have:=r k (by omega);simp only[World.cell?,f]at this;simp only[Option.isSome_none,Bool.false_eq_true,if_false]at this;rw[this,Ad (by omega)]
    ·rw[if_neg H,List.getElem?_eq_none (by omega)]
   rw[Y];simpa using d
  ·rw[if_neg S,List.getElem_set_ne S]
   have Y:Q25 V (o+j * 5) 5=Q25 U (o+j * 5) 5:=by
    apply Du;intro k;unfold Q25;rw[Cu,Cu];by_cases H:k<5
    ·rw[if_pos H,if_pos H,Ct,Ct,Array.getElem?_toList,Array.getElem?_toList]
     exact A1 _ (by omega)
    ·rw[if_neg H,if_neg H]
   rw[Y];refine(h7 j E).kept λc F=>p.block c (t c (Aa _ (L j E c F))) λe=> ?_;rcases hX c e with e|e|e
   ·exact O.1 (e▸L j E c F)
   ·exact g j E (λe'=>S e'.symm) c F e
   ·exact e (Aa _ (L j E c F))
theorem Zj.redo{w w':World}{pb J:Nat}{p:J9}{P:PS}(h:Zj w pb J p P){k:Nat}(q:k<(pW p).length){X:Qqp}{S':MS}{us':List Value}{y:Qqb}{G:List Nat}(E:Z8 w' pb J X S')
  (Y:Q1 (λc=>c=pb\/c=P.wb\/c∈P.S.all\/c∈P.Fw.getD k []) w w') (r:Q9 P.wb (P.wo+k * 5) 5 w w') (d:Q9 pb J 5 w w') (s:Qqw w' P.wb (P.wo+k * 5) us') (t:Ow Qc w' us' y G) (u:G.Nodup)
  (K:∀b∈G,(b∈P.S.all\/b∈P.Fw.getD k []\/w.heap.size<=b)/\b∉pb::S'.all) (M:∀b∈S'.all,b∈P.S.all\/b∈P.Fw.getD k []\/w.heap.size<=b):∃v,Qy w P pb J w' (X,(pW p).set k y,pA p) v:=by
 obtain⟨f,F⟩:=h.ap;have A0:=h.wks.len;have H:=h.lt;have g:∀b∈P.Fw.getD k [],b∈P.Fw.flatten:=λb B=>Zu (by omega) B;have O:∀b∈P.Fw.getD k [],b∈P.all:=λb B=>Af _ (Aa _ (g b B));have T:∀b,w.heap.size<=b->b∉pb::P.all:=λb B E=>by have:=H b E;omega
 have U:∀b∈P.wb::P.Fw.flatten,b∈pb::P.all:=λb B=>Aa _ (Af _ B);have i:=h.wks.turnX q Y (λc V=>by
  rcases V with e|e|e|e
  ·exact .inr (.inr (e▸F pb Ae))
  ·exact .inl e
  ·exact .inr (.inr (F c (Aa _ e)))
  ·exact .inr (.inl e)) r s t u (λb B=>by
  rcases(K b B).1 with e|e|e
  ·exact .inr (F b (Aa _ e))
  ·exact .inl e
  ·exact .inr λE=>T b e (U b E))
 have l:=Ar.1 h.wks.nodup;have x:=l.2;have m:=Ar.1 E.nodup;have z:∀b∈S'.all,b∉P.wb::(P.Fw.set k G).flatten:=by
  intro b B C;rcases Aq.1 C with e|C
  ·subst e
   rcases M _ B with e|e|e
   ·exact F _ (Aa _ e) Ae
   ·exact l.1 (g _ e)
   ·exact T _ e (U _ Ae)
  ·rcases Yv C with hg|⟨j,hj,hji,hj2⟩
   ·exact(K b hg).2 (Aa _ B)
   ·have n:=Zu hj hj2
    rcases M _ B with e|e|e
    ·exact F _ (Aa _ e) (Aa _ n)
    ·have W:=Dv.1 x
     have o:=Do.1 W.2;have L:k<P.Fw.length:=by omega
     rcases En hji with H|H
     ·exact o j k hj L H b (by rwa [Ab,Ad hj]at hj2) b (by rwa [Ab,Ad L]at e) rfl
     ·exact o k j L hj H b (by rwa [Ab,Ad L]at e) b (by rwa [Ab,Ad hj]at hj2) rfl
    ·exact T _ e (U _ (Aa _ n))
 have W:pb∉P.wb::(P.Fw.set k G).flatten:=by
  intro C;rcases Aq.1 C with e|C
  ·exact(f _ Ae).1 e.symm
  ·rcases Yv C with hg|⟨j,hj,hji,hj2⟩
   ·exact(K _ hg).2 Ae
   ·exact(f _ (Aa _ (Zu hj hj2))).1 rfl
 refine⟨⟨S',P.wb,P.wo,P.wcap,P.Fw.set k G⟩,⟨E, ?_,Q10 h.c6 h.mem.blk d (by omega),h.i64,i, ?_⟩,⟨rfl,rfl,λb B=> ?_⟩,Y.mono λc V=> ?_⟩
 ·show _=R (A _ ((pW p).set k y).length _)
  rw[Br];exact Q10 h.c5 h.mem.blk d (by omega)
 ·show(pb::(S'.all++P.wb::(P.Fw.set k G).flatten)).Nodup
  rw[Ar,Ba];refine⟨λhx=>(At0.1 hx).elim m.1 W,m.2,i.nodup,λa ha b B e=>z a ha (e▸B)⟩
 ·rcases At0.1 B with B|B
  ·rcases M b B with e|e|e
   ·exact .inl (Ag _ e)
   ·exact .inl (O b e)
   ·exact .inr e
  ·rcases Aq.1 B with e|B
   ·exact .inl (e▸PS.wb_all)
   ·rcases Yv B with hg|⟨j,hj,hji,hj2⟩
    ·rcases(K b hg).1 with e|e|e
     ·exact .inl (Ag _ e)
     ·exact .inl (O b e)
     ·exact .inr e
    ·exact .inl (Af _ (Aa _ (Zu hj hj2)))
 ·rcases V with e|e|e|e
  ·exact .inl e
  ·exact .inr (e▸PS.wb_all)
  ·exact .inr (Ag _ e)
  ·exact .inr (O c e)
theorem Zj.lend{w W:World}{pb K:Nat}{p:J9}{P:PS}(h:Zj w pb K p P){k g:Nat}(i:w.heap.size<=g){px:Option Addr}{cx:Nat}{E:List Nat}(G:Q1 (λ_=>False) w W){L:Value}{T:TypeId}
  (C:W.heap[g]?=R (.cells #[A (R ⟨P.S.cb,P.S.o,N⟩) (mC (pM p)).length P.S.cap,I Z (mF (pM p)),I Z (mR (pM p)).1,I Z (mR (pM p)).2,A px (wX (Q5 p k)).length cx,L] T (0,0)))
  (H:Ow (.slice Q4) w [A px (wX (Q5 p k)).length cx] (wX (Q5 p k)) E) (M:E.Nodup) (F:∀b∈E,b∈P.all/\b≠pb/\b≠P.wb/\b∉P.S.all):
  Z8 W g 0 (mC (pM p),mF (pM p),mR (pM p),wX (Q5 p k)) ⟨P.S.cb,P.S.o,P.S.cap,P.S.Fs,E⟩:=by
 have O:=h.lt;have U:=H.lt;obtain⟨_,_,-,-,-,-,-,V,X,Y,-⟩:=h.mem.head;have J:=Ar.1 (Ar.1 h.mem.nodup).2;have c:=Ba.1 J.2;refine⟨px,cx,⟨_,T,C⟩,Q11 (Q8 C rfl) (Q8 C rfl) (Q8 C rfl) (Q8 C rfl) (Q8 C rfl),V,X,Y,h.mem.cells.frame G (λ_ _ h=>h),H.frame G (λb B=>⟨U b B,λh=>h⟩), ?_⟩;show(g::P.S.cb::(P.S.Fs.flatten++E)).Nodup;have d:∀b,b∈P.S.cb::(P.S.Fs.flatten++E)->b∈pb::P.all:=λb B=>by
  rcases Aq.1 B with e|B
  ·exact Aa _ (Ag _ (e▸Ae))
  ·rcases At0.1 B with B|B
   ·exact Aa _ (Ag _ (Aa _ (Ag _ B)))
   ·exact Aa _ (F b B).1
 rw[Ar,Ar,Ba];refine⟨λB=>by have:=O _ (d _ B);omega,λB=> ?_,c.1,M,λa f b C e=>(F b C).2.2.2 (e▸Aa _ (Ag _ f))⟩;rcases At0.1 B with B|B
 ·exact J.1 (Ag _ B)
 ·exact(F _ B).2.2.2 Ae
def Q34(xs:List Wd)(m:Qqp):Qqp:=(mC m,mF m,mR m,xs++mX m)
theorem Qcr(xs:List Wd)(m:Qqp)(y:Qb):Qj (Q34 xs m) y=Q34 xs (Qj m y):=rfl
theorem Qp0(xs:List Wd)(m:Qqp)(i:Int):Qg (Q34 xs m) i=Q34 xs (Qg m i):=rfl
theorem Q9n(xs:List Wd)(m:Qqp)(a b:Int):Yu (Q34 xs m) a b=Q34 xs (Yu m a b):=by
 simp only[Yu,Q34,mC,mF,mR,mX,List.append_assoc]
theorem Qa2{α:Type}(xs:List Wd){f:Qqp×List Qqt->α->Qqp×List Qqt}(B:∀m o a,f (Q34 xs m,o) a=(Q34 xs (f (m,o) a).1,(f (m,o) a).2)):∀(l:List α) (m:Qqp) (o:List Qqt),l.foldl f (Q34 xs m,o)=(Q34 xs (l.foldl f (m,o)).1,(l.foldl f (m,o)).2)
 | [],_,_=>rfl
 |a::l,m,o=>by rw[Ce,B,Qa2 xs B l];rfl
theorem Qdd{α:Type}(xs:List Wd){f:Qqp×Wd->α->Qqp×Wd}(B:∀m o a,f (Q34 xs m,o) a=(Q34 xs (f (m,o) a).1,(f (m,o) a).2)):∀(l:List α) (m:Qqp) (o:Wd),l.foldl f (Q34 xs m,o)=(Q34 xs (l.foldl f (m,o)).1,(l.foldl f (m,o)).2)
 | [],_,_=>rfl
 |a::l,m,o=>by rw[Ce,B,Qdd xs B l];rfl
theorem Q9w{α:Type}(xs:List Wd){f:Qqp->α->Qqp}(B:∀m a,f (Q34 xs m) a=Q34 xs (f m a)):∀(l:List α) (m:Qqp),l.foldl f (Q34 xs m)=Q34 xs (l.foldl f m)
 | [],_=>rfl
 |a::l,m=>by rw[Ce,B,Q9w xs B l];rfl
theorem Qo9(xs:List Wd)(m:Qqp)(x y:Qb):Qd0 (Q34 xs m) x y=(Q34 xs (Qd0 m x y).1,(Qd0 m x y).2):=by
 unfold Qd0;simp only[];rw[Qcr,Qcr,show mF (Q34 xs m)=mF m from rfl,show mF (Q34 xs (Qj m (aK y,aL y,aV y,aD y,[])))=mF (Qj m (aK y,aL y,aV y,aD y,[]))from rfl];exact Qa2 xs (f:=Yr (aL x) (mF m) (mF (Qj m (aK y,aL y,aV y,aD y,[])))) (λ_ _ _=>rfl) _ _ _
theorem Qo0(xs:List Wd)(ws:List Wd)(m:Qqp):ws.foldl Yn (Q34 xs m,[])=(Q34 xs (ws.foldl Yn (m,[])).1,(ws.foldl Yn (m,[])).2):=
 Qa2 xs (f:=Yn) (λ_ _ _=>rfl) _ _ _
theorem Qgk(xs:List Wd)(m:Qqp)(l:Int):∀n,Jb (Q34 xs m) l n=(Q34 xs (Jb m l n).1,(Jb m l n).2)
 |0=>rfl
 |n+1=>by simp only[Jb];rw[Qgk xs m l n];rfl
theorem Qhu(xs:List Wd)(m:Qqp)(x y:Qb):Vy (Q34 xs m) x y=(Q34 xs (Vy m x y).1,(Vy m x y).2):=by
 unfold Vy;simp only[];rw[Qcr,Qgk];split
 ·rfl
 ·simp only[]
  rw[Q9w xs (f:=Yw x y _) (λ_ _=>rfl),Q9n];rfl
theorem Qms(xs:List Wd)(m:Qqp)(x y:Qb):Q4r (Q34 xs m) x y=(Q34 xs (Q4r m x y).1,(Q4r m x y).2):=rfl
theorem Qcv(xs:List Wd)(n:Qr2)(l:Int)(m:Qqp):∀j,Q00 n l (Q34 xs m) j=Q34 xs (Q00 n l m j)
 |0=>rfl
 |j+1=>by simp only[Q00];rw[Qcv xs n l m j];rfl
theorem Qph(xs:List Wd)(n:Qr2)(l:Int)(m:Qqp)(j:Nat):Qqi n l (Q34 xs m) j=Qqi n l m j:=by
 unfold Qqi;simp only[Qcv];rfl
theorem Qnd(xs:List Wd)(at_:List Int)(B:Wd)(m:Qqp)(o:Wd)(w:Qqt):Y7 at_ B (Q34 xs m,o) w=(Q34 xs (Y7 at_ B (m,o) w).1,(Y7 at_ B (m,o) w).2):=by
 unfold Y7;simp only[];repeat' split
 all_goals rfl
theorem Qlv(xs:List Wd)(n:Qr2)(l:Int)(B:Wd)(m:Qqp):V5 n l B (Q34 xs m)=(Q34 xs (V5 n l B m).1,(V5 n l B m).2):=by
 unfold V5;simp only[];rw[Qph,Qcv,Qdd xs (Qnd xs _ B),Q9w xs (λ_ _=>Q9n xs _ _ _)]
theorem Qio(xs:List Wd)(bk:List Qr2)(m:Qqp)(x:Qb)(b:Int):Vo bk (Q34 xs m) x b=Q34 xs (Vo bk m x b):=by
 unfold Vo;simp only[];rw[Qlv];simp only[];split
 ·rw[Q9n]
 ·rfl
theorem Qni(xs:List Wd)(bk:List Qr2)(m:Qqp)(c a b:Int):Jf bk (Q34 xs m) c a b=(Q34 xs (Jf bk m c a b).1,(Jf bk m c a b).2):=by
 unfold Jf;simp only[Qp0];rw[Qio,Qo9,Qo0,Qms,Qhu];simp only[show∀i,Q7 (mC (Q34 xs m)) i=Q7 (mC m) i from λ_=>rfl];repeat' split
 all_goals rfl
theorem Z8.o{w:World}{g L:Nat}{m:Qqp}{S:MS}(h:Z8 w g L m S){i:Int}(O:i.toNat<(mC m).length):∀b∈S.Fs.getD i.toNat [],b∈S.all/\b∉g::(S.put i []).all:=by
 have P:S.Fs.length=(mC m).length:=by obtain⟨_,_,_,_,_,_,M,_⟩:=h.cells;exact M
 have G:=Ar.1 h.nodup;have H:=Ar.1 G.2;have J:=Ba.1 H.2;have K:=Do.1 (Dv.1 J.1).2;intro b F;have C:=Zu (by omega) F;refine⟨Aa _ (Ag _ C),λB=> ?_⟩;unfold MS.all MS.put at B;simp only at B;rcases Aq.1 B with e|B
 ·exact G.1 (e▸Aa _ (Ag _ C))
 ·rcases Aq.1 B with e|B
  ·exact H.1 (e▸Ag _ C)
  ·rcases At0.1 B with B|B
   ·rcases Yv B with B|⟨j,hj,hji,hj2⟩
    ·simp at B
    ·have E:i.toNat<S.Fs.length:=by omega
     rcases En hji with hlt|hlt
     ·exact K j i.toNat hj E hlt b (by rwa [Ab,Ad hj]at hj2) b (by rwa [Ab,Ad E]at F) rfl
     ·exact K i.toNat j E hj hlt b (by rwa [Ab,Ad E]at F) b (by rwa [Ab,Ad hj]at hj2) rfl
   ·exact J.2.2 b C b B rfl
def Q4d(p:J9)(xs:List Wd):Qqp:=(mC (pM p),mF (pM p),mR (pM p),xs)
theorem Qnc{p:J9}(h:mX (pM p)=[])(xs:List Wd):Q4d p xs=Q34 xs (pM p):=by unfold Q4d Q34;rw[h,List.append_nil]
def Q1q(bk:List Qr2)(p:J9)(k:Nat):Qqp×List Qqt:=
 Jf bk (Q4d p ((wX (Q5 p k)).take ((wX (Q5 p k)).length-1))) (Z4 (mC (pM p)) (Ya (Q5 p k))) (Zl (mC (pM p)) (Ya (Q5 p k))).1 (Zl (mC (pM p)) (Ya (Q5 p k))).2
theorem Qi1{bk:List Qr2}{p:J9}{k:Nat}(h:mX (pM p)=[]):Q1q bk p k=(Q34 ((wX (Q5 p k)).take ((wX (Q5 p k)).length-1)) (Jf bk (pM p) (Z4 (mC (pM p)) (Ya (Q5 p k))) (Zl (mC (pM p)) (Ya (Q5 p k))).1 (Zl (mC (pM p)) (Ya (Q5 p k))).2).1,(Jf bk (pM p) (Z4 (mC (pM p)) (Ya (Q5 p k))) (Zl (mC (pM p)) (Ya (Q5 p k))).1 (Zl (mC (pM p)) (Ya (Q5 p k))).2).2):=by
 unfold Q1q;rw[Qnc h,Qni]
def Jv(bk:List Qr2)(p:J9)(k:Nat):Int×Int:=Zn bk (mC (pM p)) (Ya (Q5 p k))
def Q0s(p:J9)(k:Nat):Int:=Z4 (mC (pM p)) (Ya (Q5 p k))
theorem Qjh{bk:List Qr2}{p:J9}{k n:Nat}(B:n=Z3 (mC (pM p))):Q0k bk (pM p) (Q5 p k)=if(Jv bk p k).2 !=0 then(Jv bk p k).2 else if decide ((n:Int)+Zm (Q0s p k)<(Jv bk p k).1)||decide (1000000000<=(wC (Q5 p k)).getD (Q0s p k-1).toNat 0)then 4 else 0:=by
 unfold Q0k Jv Q0s;rw[B]
theorem Qlt{bk:List Qr2}{p:J9}{k:Nat}(B:mX (pM p)=[])(h:Q0k bk (pM p) (Q5 p k)=0):Q3k bk p k=((mC (Q1q bk p k).1,mF (Q1q bk p k).1,mR (Q1q bk p k).1,[]),(pW p).set k (wP (Q5 p k),wV (Q5 p k),mX (Q1q bk p k).1,(Q1q bk p k).2,(wC (Q5 p k)).set (Q0s p k-1).toNat ((wC (Q5 p k)).getD (Q0s p k-1).toNat 0+1)),pA p):=by
 unfold Q3k;rw[if_pos h,Qi1 B];rfl
end Go.Proofs.YthbpkpnioaniiaaGreat
