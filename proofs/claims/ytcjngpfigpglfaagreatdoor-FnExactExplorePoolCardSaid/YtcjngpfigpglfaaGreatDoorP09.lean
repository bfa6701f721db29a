import Derived.Test.YtcjngpfigpglfaaGreatDoorP08
set_option maxHeartbeats 0
set_option maxRecDepth 100000
set_option linter.all false
namespace Go.Proofs.YtcjngpfigpglfaaGreatDoor
open Go.RowKit Go.Proofs.Tryz
open Go.Value renaming int->I,slice->A
open Go.IntKind renaming i64->Z
open Option renaming none->N,some->R
open OC(oC)
open OR(oR)
open JN(jN)
open And renaming intro->Cj
open Go renaming World->Bh,maxLen->Bu,Calls->Bv,heap_alloc_new->Bg
open Go.Value.slice renaming injEq->Ci
open Go.World renaming cell?_setCell_other->Df,cell?->Er,cell?_setCell_same->Bx
open List renaming append_nil->Cl,length_append->Bo,length_singleton->Dg
open Option.some renaming injEq->Bt
abbrev Q4g:Ty:=.pair (.slice Qv) (.pair (.slice .int) (.pair (.slice .int) (.pair (.slice .int) (.pair .int .int))))
def Qym(x:Q10):Q4g.den:=(x.1.map fP,(x.1.map fF,(x.1.map fB,(x.1.map fD,(x.2.1,x.2.2)))))
abbrev Qak:Ty:=.pair Qv (.pair .int (.pair .int .int))
def Qy6(x:Q4u):Qak.den:=(fP x,(fD x,(fF x,if fF x<0 then 0 else fB x)))
abbrev Qif:Ty:=.pair (.slice Qak) (.pair .int .int)
def Qxg(x:Q10):Qif.den:=(x.1.map Qy6,(x.2.1,x.2.2))
def Q96(x:Q10):List (List UInt8):=x.1.map λy=>Q86 (fP y)
def Qla{bk p most f i W}(h:i<W.1):Q4m bk p most (f+1) i W=if most<(Q0l bk p W i).1.length then N else Q4m bk p most f (i+1) (Q0l bk p W i):=by
 grind[Q4m]
def Qin{bk p most f i W}(h:W.1<=i):Q4m bk p most f i W=R W:=by
 cases f with
 |zero=>rfl
 |succ f=>unfold Q4m;rw[if_neg (by omega)]
def Qpo:Option Q10->Sum Int Q10
 |none=> .inl 4
 |some W=> .inr W
def Q5w(bk:List Qy0)(p:Ye)(most:Int):Sum Int Q10:=
 if Q0s bk && Jw p then if Qxi most 1 400 then Qpo (Q4m bk p most (most.toNat+1) 0 (Jp p))else .inl 2 else .inl 1
theorem Qcg(bk:List Qy0)(p q:Ye)(most:Int):Q1p bk p q most=if Jw q then match Q5w bk p most with
  | .inl c=>([],c)
  | .inr W=>match Q25 W q with
   |none=>([],3)
   |some j=>((Q3b p W j j).reverse,0)
 else([],1):=by
 unfold Q1p Q5w;cases Jw q<;>cases (Q0s bk && Jw p)<;>cases Qxi most 1 400<;>try rfl
 cases Q4m bk p most (most.toNat+1) 0 (Jp p)<;>rfl
def Qrj(t:Ty)(sh:Q10->t.den)(R1:Sum Int Q10)(B:Nat)(w:Bh)(e:Ending)(w':Bh):Prop:=Below B w w'/\
 ((∃c,R1=.inl c/\c≠0/\Qyn c/\e=.returned (.tuple #[.pointer N,c]))\/∃W b G,R1=.inr W/\e=.returned (.tuple #[.pointer (R ⟨b,0,N⟩),()])/\Q1b B b 0 t w' (sh W) G)
def Qcl{bk x i w k}(h:(Yo bk (fP x) k.toNat).1≠0):Y6 bk x i w k=(w.1,w.2.1,w.2.2+1):=by
 grind[Y6]
def Qdi{bk x i w k}(h:(Yo bk (fP x) k.toNat).1=0)(B:(w.1.any λy=>Qyo Qv (fP y) (Yo bk (fP x) k.toNat).2)=true):Y6 bk x i w k=(w.1,w.2.1+1,w.2.2):=by
 grind[Y6]
theorem Q9l{bk x i w k}(h:(Yo bk (fP x) k.toNat).1=0)(B:(w.1.any λy=>Qyo Qv (fP y) (Yo bk (fP x) k.toNat).2)=false):Y6 bk x i w k=(w.1++ [((Yo bk (fP x) k.toNat).2,(i:Int),k,fD x+1)],w.2.1+1,w.2.2):=by
 grind[Y6]
def Qvm{w q}(h:∀x∈w.1,mX (pM (fP x))=[])(B:mX (pM q)=[]):(w.1.any λy=>Qyo Qv (fP y) q)=decide (Q86 q∈Q96 w):=by
 rw[Bool.eq_iff_iff,List.any_eq_true,decide_eq_true_iff];grind[Q96,Z5,Quw]
def Quv{bk x i w}{L:List Int}{k:Nat}(B)(h:(Yo bk (fP x) (L[k]).toNat).1=0)(C:(((L.take k).foldl (Y6 bk x i) w).1.any λy=>Qyo Qv (fP y) (Yo bk (fP x) (L[k]).toNat).2)=false):
  ((L.take k).foldl (Y6 bk x i) w).1.length<(L.foldl (Y6 bk x i) w).1.length:=by
 have e:L.foldl (Y6 bk x i) w=(L.drop (k+1)).foldl (Y6 bk x i) (Y6 bk x i ((L.take k).foldl (Y6 bk x i) w) L[k]):=by
  conv=>lhs;rw[<-List.take_append_drop k L,List.drop_eq_getElem_cons B]
  grind
 grind[Q6z,Y6]
def Qqn{e w g T vs x F}(h:w.heap[g]?=R (.cells vs.toArray T (0,0)))(o:Ow e w vs x F):Ow (.slice e) w [A (R (g,0)) 1 1] [x] (g::F):=by
 have C:=o.length;refine⟨_,rfl,.inr ⟨g,0,1,vs.toArray,T,[F],rfl,Aj _,by unfold Bu;omega,h,by simp;omega,by simp,rfl,λi B=> ?_⟩⟩;obtain rfl:i=0:=by simpa using B
 grind
structure Qyk (B bx bm:Nat) (Z:List Nat) (w0 w7 wr:Bh) (ks:List (List UInt8)) (V:Q10) (G:List Nat):Prop where
 pt0:Q1b B bx 0 Qif wr (Qxg V) G
 nm:bm∉bx::G
 seen:Qet wr bm ks.length ks
 below:Below B w0 wr
 size:B<=wr.heap.size/\B<=bm
 hz:∀c∈Z,c<wr.heap.size/\wr.heap[c]?=w7.heap[c]?
 zx:bx∉Z/\bm∉Z
 hd:∀p n c,wr.cell? ⟨bx,0,N⟩=R (A p n c)->∀q,(A p n c).ownBlock=R q->q∉Z
def Qyk.call{B E F H J K wr w' L V G}(h:Qyk B E F H J K wr L V G)(k:Below wr wr w'):Qyk B E F H J K w' L V G:=by
 have M:=h.pt0.lt;refine⟨h.pt0.kept (X:=λ_=>False) (Ay k) λ_ _ h=>h,h.nm,h.seen.frame (X:=λ_=>False) (Ay k) (λh=>h),h.below.trans (k.mono h.size.1),⟨Au h.size.1 k.size,h.size.2⟩,λc C=>⟨Ap (h.hz c C).1 k.size,(k.block c (h.hz c C).1).trans (h.hz c C).2⟩,h.zx, ?_⟩;intro p n c C;rw[k.cell (p:=⟨E,0,N⟩) M.1]at C;exact h.hd p n c C
theorem Qyk.cell{B C F J K L wr M V G}(h:Qyk B C F J K L wr M V G):(∃p c,wr.cell? (C,0)=R (A p V.1 c))/\(wr,C,1,V.2.1)/\(wr,C,2,V.2.2)/\Qyn V.2.1/\Qyn V.2.2:=by
 obtain⟨H,f⟩:=Qyj.fst h.pt0;obtain⟨p,c,O,-⟩:=f.hold.slice;obtain⟨P,f1⟩:=Qyj.at1 h.pt0;obtain⟨S,E⟩:=Qyj.last1 h.pt0;refine⟨⟨p,c,by simpa[Qxg]using O⟩,f1.hold.int.1,E.hold.int.1,f1.hold.int.2.1,E.hold.int.2.1⟩
theorem Qyk.set1{B H J K L M wr O V G}(h:Qyk B H J K L M wr O V G){m}(S:Qyn m):∃F,Qyk B H J K L M (wr.setCell (H,1) m) O (V.1,m,V.2.2) F/\∀c∈F,c∈G:=by
 obtain⟨T,f1⟩:=Qyj.at1 h.pt0;obtain⟨F,q1,P,E⟩:=f1.setI S;refine⟨F,⟨q1,λC=>h.nm ((Aq.1 C).elim (λe=>e▸Ae) λC=>Aa _ (P _ C)),h.seen.frame E (λe=>h.nm (e▸Ae)),h.below.trans (E.below h.size.1 λc e=>e▸h.pt0.young.1),⟨Au h.size.1 E.size,h.size.2⟩,λc C=>⟨Ap (h.hz c C).1 E.size,(E.block c (h.hz c C).1 λe=>h.zx.1 (e▸C)).trans (h.hz c C).2⟩,h.zx, ?_⟩,P⟩;intro p n c C;rw[Df _ _ _ _ (by simp)]at C;exact h.hd p n c C
theorem Qyk.set2{B H J K L M wr O V G}(h:Qyk B H J K L M wr O V G){m}(S:Qyn m):∃F,Qyk B H J K L M (wr.setCell (H,2) m) O (V.1,V.2.1,m) F/\∀c∈F,c∈G:=by
 obtain⟨T,f1⟩:=Qyj.last1 h.pt0;obtain⟨F,q1,P,E⟩:=f1.setI S;refine⟨F,⟨q1,λC=>h.nm ((Aq.1 C).elim (λe=>e▸Ae) λC=>Aa _ (P _ C)),h.seen.frame E (λe=>h.nm (e▸Ae)),h.below.trans (E.below h.size.1 λc e=>e▸h.pt0.young.1),⟨Au h.size.1 E.size,h.size.2⟩,λc C=>⟨Ap (h.hz c C).1 E.size,(E.block c (h.hz c C).1 λe=>h.zx.1 (e▸C)).trans (h.hz c C).2⟩,h.zx, ?_⟩,P⟩;intro p n c C;rw[Df _ _ _ _ (by simp)]at C;exact h.hd p n c C
theorem Qyk.put{B E F J K L wr H M}{ks':List (List UInt8)}{V G}(h:Qyk B E F J K L wr M V G)(O:Qet H F ks' ks')(k:Q1 (λc=>c=F) wr H):Qyk B E F J K L H ks' V G:=by
 have P:=h.pt0.lt;refine⟨h.pt0.kept k λc C e=>h.nm (e▸C),h.nm,O,h.below.trans (k.below h.size.1 λc e=>e▸h.size.2),⟨Au h.size.1 k.size,h.size.2⟩,λc C=>⟨Ap (h.hz c C).1 k.size,(k.block c (h.hz c C).1 λe=>h.zx.2 (e▸C)).trans (h.hz c C).2⟩,h.zx, ?_⟩;intro p n c C;have e:H.cell? (E,0)=wr.cell? (E,0):=by unfold Er;rw[k.block E P.1 (λe=>h.nm (e▸Ae))]
 rw[e]at C;exact h.hd p n c C
def Qyk.snoc{B E L Y a g wr i V G}(h:Qyk B E L Y a g wr i V G){p c}(M:wr.cell? (E,0)=R (A p V.1 c)):
  ∃H,Ow (.slice Qak) wr [A p V.1 c] (Qxg V).1 H/\H.Nodup/\(∀b∈H,b∈G)/\∀(f:Q4u) (K:Option Addr) (c':Nat) (w2:Bh) (O Gy:List Nat),Ow (.slice Qak) w2 [A K (V.1+1) c'] ((Qxg V).1++ [Qy6 f]) O->O.Nodup->(∀b∈O,b∈H\/b∈Gy\/b=wr.heap.size)->
   Q1 (λb=>b∈H/\(A p V.1 c).ownBlock=R b) wr w2->((A K (V.1+1) c').ownBlock=(A p V.1 c).ownBlock\/K=R ⟨wr,0,N⟩)->(∀b∈Gy,b∉L::E::G/\B<=b)->
   ∃P,Qyk B E L Y a g (w2.setCell (E,0) (A K (V.1+1) c')) i (V.1++ [f],V.2.1,V.2.2) P/\∀b∈P,b∈G\/b∈Gy\/b=wr.heap.size:=by
 obtain⟨H,f⟩:=Qyj.fst h.pt0;obtain⟨v,w,F,j⟩:=f.hold.slice;have l:(Qxg V).1.length=V.1:=by simp[Qxg]
 rw[l]at F j;rw[M]at F;simp only[Bt,Ci,true_and]at F;obtain⟨rfl,rfl⟩:=F;refine⟨H,j,f.hold.young.2.2.2,f.sub, ?_⟩;intro y K c' w2 O Gy m n o S r W;have T:=h.pt0.lt;obtain⟨P,q1,k,x⟩:=f.snoc S m n o (λd C=>C.elim (λC=>⟨λJ=>(W d C).1 (Aa _ J),(W d C).2⟩) λe=>⟨λJ=>by
  rw[e]at J;rcases Aq.1 J with h|h
  ·have:=T.1;omega
  have:=T.2 _ h;omega,by rw[e];exact h.size.1⟩)
 have z:E<w2:=Ap T.1 S.size;have A0:L<wr:=h.seen.lt;have hX:∀d,d∈H/\(A p V.1 c).ownBlock=R d->d∈G:=λd C=>f.sub d C.1;have fr:Q1 (λd=>d=E\/(d∈H/\(A p V.1 c).ownBlock=R d)) wr (w2.setCell (E,0) (A K (V.1+1) c')):=Q1.setCell (p:=⟨E,0,N⟩) (S.mono λd C=> .inr C) (.inl rfl) _;refine⟨P,⟨?_, ?_, ?_, ?_,⟨Au h.size.1 fr.size,h.size.2⟩, ?_,h.zx, ?_⟩,k⟩
 ·have e:Qxg (V.1++ [y],V.2.1,V.2.2)=((Qxg V).1++ [Qy6 y],(Qxg V).2):=by simp[Qxg]
  rw[e];exact q1
 ·intro J
  rcases Aq.1 J with e|J
  ·exact h.nm (e▸Ae)
  rcases k _ J with F|F|F
  ·exact h.nm (Aa _ F)
  ·exact(W _ F).1 Ae
  omega
 ·exact h.seen.frame fr (λe=>e.elim (λe=>h.nm (e▸Ae)) λe=>h.nm (Aa _ (hX _ e)))
 ·exact h.below.trans (fr.below h.size.1 λd e=>e.elim (λe=>e▸h.pt0.young.1) λe=>h.pt0.young.2.1 _ (hX _ e))
 ·intro d C
  refine⟨Ap (h.hz d C).1 fr.size,(fr.block d (h.hz d C).1 λe=>e.elim (λe=>h.zx.1 (e▸C)) λe=>h.hd _ _ _ M _ e.2 C).trans (h.hz d C).2⟩
 intro p2 n2 c2 X;have:∃u,w2.cell? (E,0)=R u:=by
  by_cases e:E∈H/\(A p V.1 c).ownBlock=R E
  ·exact absurd e.1 f.hold.young.2.2.1
  exact⟨_,by unfold Er;rw[S.block E T.1 e];exact M⟩
 obtain⟨u,s⟩:=this;rw[Bx _ _ _ s]at X;simp only[Bt,Ci]at X;obtain⟨rfl,rfl,rfl⟩:=X;intro q U;rcases r with e|e
 ·rw[e]at U;exact h.hd _ _ _ M q U
 rw[e]at U;simp only[Value.ownBlock,Bt]at U;intro t;have:=(h.hz q t).1;omega
def Qyk.withZ{B E F K C H L wr J V G}(h:Qyk B E F K H L wr J V G)(M:∀c∈C,c<wr.heap.size)(O:E∉C/\F∉C)(P:∀p n c,wr.cell? (E,0)=R (A p n c)->∀q,(A p n c).ownBlock=R q->q∉C):Qyk B E F C H wr wr J V G:=
 ⟨h.pt0,h.nm,h.seen,h.below,h.size,λc S=>⟨M c S,rfl⟩,O,P⟩
theorem Qyk.noZ{B E F J C K wr H V G}(h:Qyk B E F J C K wr H V G):Qyk B E F [] C C wr H V G:=
 ⟨h.pt0,h.nm,h.seen,h.below,h.size,λc L=>(by cases L),⟨by simp,by simp⟩,λ_ _ _ _ _ _ h=>(by cases h)⟩
theorem Qyk.start{B E C w1 V G}(h:Q1b B E 0 Qif w1 (Qxg V) G)(H:Below B C w1)(F:B<=w1):Qyk B E w1 [] C C (w1.alloc (.map #[] 0)) [] V G:=by
 have J:=h.lt;refine⟨h.kept (X:=λ_=>False) (Ay (by go_grown)) λ_ _ h=>h,λK=> ?_,Qet.start w1,H.alloc F _,⟨by simp;omega,F⟩,λc L=>(by cases L),⟨by simp,by simp⟩,λ_ _ _ _ _ _ h=>(by cases h)⟩;rcases Aq.1 K with e|e
 ·omega
 have:=J.2 _ e;omega
structure Qy4 (B bx:Nat) (Z:List Nat) (w0 w7 wr:Bh) (x:Q4g.den) (G:List Nat):Prop where
 pt0:Q1b B bx 0 Q4g wr x G
 below:Below B w0 wr
 size:B<=wr.heap.size
 hz:∀c∈Z,c<wr.heap.size/\wr.heap[c]?=w7.heap[c]?
 zx:bx∉Z
 hd:∀q,q<4->∀p n c,wr.cell? ⟨bx,q,N⟩=R (A p n c)->∀d,(A p n c).ownBlock=R d->d∉Z
def Qy4.call{B E F H J wr w' x G}(h:Qy4 B E F H J wr x G)(k:Below wr wr w'):Qy4 B E F H J w' x G:=by
 have K:=h.pt0.lt;refine⟨h.pt0.kept (X:=λ_=>False) (Ay k) λ_ _ h=>h,h.below.trans (k.mono h.size),Au h.size k.size,λc C=>⟨Ap (h.hz c C).1 k.size,(k.block c (h.hz c C).1).trans (h.hz c C).2⟩,h.zx, ?_⟩;intro q L p n c C;rw[k.cell (p:=⟨E,q,N⟩) K.1]at C;exact h.hd q L p n c C
def Qy4.setI{B E q K L M wr x G H}{n:Int}{O:Int->Q4g.den}(h:Qy4 B E K L M wr x G)(f:Qyj B E 0 Q4g wr G E q .int n H O){m}(P:Qyn m):
  ∃F,Qy4 B E K L M (wr.setCell (E,q) m) (O m) F/\∀c∈F,c∈G:=by
 obtain⟨F,q1,S,J⟩:=f.setI P;refine⟨F,⟨q1,h.below.trans (J.below h.size λc e=>e▸h.pt0.young.1),Au h.size J.size,λc C=>⟨Ap (h.hz c C).1 J.size,(J.block c (h.hz c C).1 λe=>h.zx (e▸C)).trans (h.hz c C).2⟩,h.zx, ?_⟩,S⟩;intro r T p n c C;by_cases e:r=q
 ·subst e
  rw[Bx _ _ _ f.hold.int.1]at C;simp at C
 rw[Df _ _ _ _ (by simpa using λU=>e U.symm)]at C;exact h.hd r T p n c C
def Qy4.snoc{B C q U V W wr x G H e}{xs:List e.den}{X:List e.den->Q4g.den}(h:Qy4 B C U V W wr x G)(f:Qyj B C 0 Q4g wr G C q (.slice e) xs H X)(Y:q<4){p c}(J:wr.cell? (C,q)=R (A p xs c)):
  Ow (.slice e) wr [A p xs c] xs H/\H.Nodup/\(∀b∈H,b∈G)/\C∉H/\∀(y:e.den) (F:Option Addr) (c':Nat) (w2:Bh) (K Gy:List Nat),Ow (.slice e) w2 [A F (xs+1) c'] (xs++ [y]) K->K.Nodup->(∀b∈K,b∈H\/b∈Gy\/b=wr.heap.size)->
   Q1 (λb=>b∈H/\(A p xs c).ownBlock=R b) wr w2->((A F (xs+1) c').ownBlock=(A p xs c).ownBlock\/F=R ⟨wr,0,N⟩)->(∀b∈Gy,b∉C::G/\B<=b)->
   (w2,C,q,A p xs c)/\w2.frozen? (C,q)=false/\∃L,Qy4 B C U V W (w2.setCell (C,q) (A F (xs+1) c')) (X (xs++ [y])) L/\∀b∈L,b∈G\/b∈Gy\/b=wr.heap.size:=by
 obtain⟨p1,c1,O,k⟩:=f.hold.slice;rw[J]at O;simp only[Bt,Ci,true_and]at O;obtain⟨rfl,rfl⟩:=O;have a:=f.hold.young.2.2.1;refine⟨k,f.hold.young.2.2.2,f.sub,a, ?_⟩;intro y F c' w2 K Gy l m n P o s;have S:=h.pt0.lt;obtain⟨L,q1,t,q3⟩:=f.snoc P l m n (λd E=>E.elim (λE=>s d E) λe=>⟨λg=>by
  rw[e]at g;rcases Aq.1 g with h|h
  ·have:=S.1;omega
  have:=S.2 _ h;omega,by rw[e];exact h.size⟩)
 have hX:∀d,d∈H/\(A p xs c).ownBlock=R d->d∈G:=λd E=>f.sub d E.1;have fr:Q1 (λd=>d=C\/(d∈H/\(A p xs c).ownBlock=R d)) wr (w2.setCell (C,q) (A F (xs+1) c')):=Q1.setCell (p:=⟨C,q,N⟩) (P.mono λd E=> .inr E) (.inl rfl) _;have i:w2.heap[C]?=wr.heap[C]?:=P.block C S.1 λe=>a e.1;have T:∀r,w2.cell? ⟨C,r,N⟩=wr.cell? ⟨C,r,N⟩:=λr=>by unfold Er;rw[i]
 refine⟨by rw[T];exact J,by unfold World.frozen?;rw[i];exact h.pt0.free q,L,⟨q1, ?_,Au h.size fr.size, ?_,h.zx, ?_⟩,t⟩
 ·exact h.below.trans (fr.below h.size λd e=>e.elim (λe=>e▸h.pt0.young.1) λe=>h.pt0.young.2.1 _ (hX _ e))
 ·intro d E
  exact⟨Ap (h.hz d E).1 fr.size,(fr.block d (h.hz d E).1 λe=>e.elim (λe=>h.zx (e▸E)) λe=>h.hd _ Y _ _ _ J _ e.2 E).trans (h.hz d E).2⟩
 intro r u v w z M;by_cases j:r=q
 ·subst j
  rw[Bx _ _ _ ((T r).trans J)]at M;obtain⟨rfl,rfl,rfl⟩:=M;intro d E;rcases o with e|e
  ·rw[e]at E;exact h.hd _ Y _ _ _ J d E
  rw[e]at E;simp only[Value.ownBlock,Bt]at E;intro hz;have:=(h.hz d hz).1;omega
 rw[Df _ _ _ _ (by simpa using λe'=>j e'.symm),T]at M;exact h.hd r u v w z M
def Qy4.app{B C q M O P w W x G e}{xs:List e.den}{S:List e.den->Q4g.den}(h:Qy4 B C M O P w x G)(f:∀V,Q1b B C 0 Q4g V x G->∃H,Qyj B C 0 Q4g V G C q (.slice e) xs H S)(d:q<4){n:Nat}(g:xs=n){vs T y Gy}(J:Below w w W)(hX:W.heap[w.heap.size]?=R (.cells vs.toArray T (0,0)))(U:Ow e w vs y Gy)(X:∀b∈Gy,b∉C::G/\B<=b):
  ∃p c H,(w,C,q,A p n c)/\Hd (Ow (.slice e) W [A p n c] xs H)/\Hd H.Nodup/\Hd (Ow e W vs y Gy)/\Hd (∀b∈Gy,b∉H)/\Hd (Qy2 W w 0 vs)/\
   Hd (∀(E:Option Addr) (c':Nat) (w2:Bh) (F:List Nat),Ow (.slice e) w2 [A E (n+1) c'] (xs++ [y]) F->F.Nodup->(∀b∈F,b∈H\/b∈Gy\/b=W.heap.size)->
    Q1 (λb=>b∈H/\(A p n c).ownBlock=R b) W w2->((A E (n+1) c').ownBlock=(A p n c).ownBlock\/E=R ⟨W,0,N⟩)->
    (w2,C,q,A p n c)/\w2.frozen? (C,q)=false/\∃K,Qy4 B C M O P (w2.setCell (C,q) (A E (n+1) c')) (S (xs++ [y])) K):=by
 subst g;obtain⟨_,f0⟩:=f w h.pt0;obtain⟨p,c,Y,-⟩:=f0.hold.slice;have a:=h.call J;obtain⟨H,i⟩:=f W a.pt0;obtain⟨q1,k,l,-,m⟩:=a.snoc i d (jC J Y);refine⟨p,c,H,Y,q1,k,U.kept λb L=>J.block b (U.lt b L),λb L o=>(X b L).1 (Aa _ (l b o)),λj r=>Q6 hX (by rw[Nat.zero_add,List.getElem?_toArray,Ad r]), ?_⟩;intro E c' w2 F s t u v z;obtain⟨a1,a2,K,a3,-⟩:=m y E c' w2 F Gy s t u v z X;exact⟨a1,a2,K,a3⟩
def Ow.own{e w v}{xs:List e.den}{F}(h:Ow (.slice e) w [v] xs F)(B:xs≠ []){d}(C:v.ownBlock=R d):d∈F:=by
 obtain⟨E,G,h⟩:=h;obtain rfl:v=E:=by simpa using G
 rcases h with⟨h,-⟩|⟨b,o,H,cur,T,J,rfl,-,-,-,-,rfl,-⟩
 ·exact absurd h B
 simp only[Value.ownBlock,Bt]at C;grind
def Qyj.own{B C q wr G H e}{xs:List e.den}{F:List e.den->Q4g.den}(f:Qyj B C 0 Q4g wr G C q (.slice e) xs H F)(J:xs≠ []){p n c d}(K:wr.cell? (C,q)=R (A p n c))(L:(A p n c).ownBlock=R d):d∈G:=by
 obtain⟨O,P,E,M⟩:=f.hold.slice;rw[K]at E;obtain⟨rfl,rfl,rfl⟩:=E;exact f.sub _ (M.own J L)
def Qy4.withZ{B J L E K M wr x G}(h:Qy4 B J L K M wr x G)(O:∀c∈E,c<wr.heap.size)(P:J∉E)(F:∀c∈G,c∉E)(S:x.1≠ [])(T:x.2.1≠ [])(U:x.2.2.1≠ [])(V:x.2.2.2.1≠ []):Qy4 B J E K wr wr x G:=by
 refine⟨h.pt0,h.below,h.size,λc C=>⟨O c C,rfl⟩,P,λq W p n c C d H=> ?_⟩;match q,W with
 |0,_=>exact F d ((Qyj.fst h.pt0).choose_spec.own S C H)
 |1,_=>exact F d ((Qyj.at1 h.pt0).choose_spec.own T C H)
 |2,_=>exact F d ((Qyj.at2 h.pt0).choose_spec.own U C H)
 |3,_=>exact F d ((Qyj.at3 h.pt0).choose_spec.own V C H)
theorem Qy4.noZ{B E F C H wr x G}(h:Qy4 B E F C H wr x G):Qy4 B E [] C C wr x G:=
 ⟨h.pt0,h.below,h.size,λc J=>(by cases J),(by simp),λ_ _ _ _ _ _ _ _ h=>(by cases h)⟩
def Q1h{w}{k:Int}:Bv prog 228 #[k] w λe w'=>e=.returned (Q28 k)/\w=w':=by
 go_enter func228,ntmps228;go_wp2;all_goals(go_ret;exact⟨Vy (by first|(simp_all[Q28,Qxi];done)|(simp_all[Q28,Qxi];omega)),rfl⟩)
def Qkc{w}{k:Int}:Bv prog 230 #[k] w λe w'=>e=.returned (Qxi k 0 8)/\w=w':=by
 go_enter func230,ntmps230;go_wp2;all_goals(go_ret;exact⟨Vy (by first|(simp_all[Qxi];done)|(simp_all[Qxi];omega)),rfl⟩)
def Qle{w}{k:Int}:Bv prog 199 #[k] w λe w'=>e=.returned (Q3p k)/\w=w':=by
 go_enter func199,ntmps199;go_wp2;all_goals(go_ret;exact⟨Vy (by first|(simp_all[Q3p,Qxi];done)|(simp_all[Q3p,Qxi];omega)),rfl⟩)
def Qr6{w}{k:Int}:Bv prog 200 #[k] w λe w'=>e=.returned (Qxi k (-2147483648) 2147483647)/\w=w':=by
 go_enter func200,ntmps200;go_wp2;all_goals(go_ret;exact⟨Vy (by first|(simp_all[Qxi];done)|(simp_all[Qxi];omega)),rfl⟩)
def Q7p{w}{k:Int}:Bv prog 201 #[k] w λe w'=>e=.returned (Qxi k 1 6)/\w=w':=by
 go_enter func201,ntmps201;go_wp2;all_goals(go_ret;exact⟨Vy (by first|(simp_all[Qxi];done)|(simp_all[Qxi];omega)),rfl⟩)
def Q3f{w}(b):Bv prog 69 #[.bool b] w λe w'=>e=.returned (Q22 b)/\w=w':=by
 go_enter func69,ntmps69;go_wp2;all_goals(go_ret;exact⟨Qt (by simp_all[Q22]),rfl⟩)
def Q5o{w}(k:Int):Bv prog 229 #[k] w λe w'=>e=.returned (Zf k)/\w=w':=by
 go_enter func229,ntmps229;go_wp2_with(go_at_call 228;refine jX (Q1h) ?_)
 all_goals(go_ret;exact⟨Vy (by rw[<-Qco];simp_all),rfl⟩)
def Qg4{w}{k:Int}:Bv prog 302 #[k] w λe w'=>e=.returned (Q4y k)/\w=w':=by
 go_enter func302,ntmps302;go_wp2;all_goals(go_ret;exact⟨Vy (by simp_all[Q4y]),rfl⟩)
def V0{w}{k l:Int}:Bv prog 197 #[k,l] w λe w'=>e=.returned (Zm k l)/\w=w':=by
 go_enter func197,ntmps197;go_wp2_with(first|(go_at_call 228;refine jX (Q1h) ?_)|(go_at_call 229;refine jX (Q5o _) ?_)|(go_at_call 230;refine jX (Qkc) ?_))
 all_goals(go_ret;exact⟨Vy (by rw[<-Qn7];simp_all),rfl⟩)
def Qfg{w}{a k l:Int}:Bv prog 301 #[a,k,l] w λe w'=>e=.returned (Q3i a k l)/\w=w':=by
 go_enter func301,ntmps301;go_wp2_with(first|(go_at_call 197;refine jX (V0) ?_)|(go_at_call 229;refine jX (Q5o _) ?_)|(go_at_call 230;refine jX (Qkc) ?_))
 all_goals(go_ret;exact⟨Vy (by rw[<-Qf6];simp_all[Bool.or_assoc]),rfl⟩)
def Quh{w}{ka la kb lb:Int}:Bv prog 299 #[ka,la,kb,lb] w λe w'=>e=.returned (Vl ka la kb lb)/\w=w':=by
 go_enter func299,ntmps299;go_wp2_with(first|(go_at_call 301;refine jX (Qfg) ?_)|(go_at_call 302;refine jX (Qg4) ?_))
 all_goals(go_ret;exact⟨Qt (by simp_all[Vl]),rfl⟩)
def Qgo{w}(ka la kb lb:Int):Bv prog 293 #[ka,la,kb,lb] w λe w'=>e=.returned (.tuple #[(Jb ka la kb lb),(Vg ka la kb lb)])/\w=w':=by
 go_enter func293,ntmps293;go_wp2_with(first|(go_at_call 197;refine jX (V0) ?_)|(go_at_call 299;refine jX (Quh) ?_))
 all_goals(go_ret2;exact⟨by simp_all[Jb,Vg,Q66],rfl⟩)
def Q5p.agent{w b o}{k l v:Int}{d:List Int}{ws:List Wd}{G}(h:Q5p Q4 w b o (k,l,v,d,ws) G):
  ∃(B:Option Addr) (C:Nat) (E:Option Addr) (F:Nat),((w,b,o,k)/\(w,b,o+1,l)/\(w,b,o+2,v)/\(w,b,o+3,A B d C)/\(w,b,o+4,A E ws F))/\
   (Qyn k/\Qyn l/\Qyn v)/\∃H J,G=H++J/\Ow (.slice .int) w [A B d C] d H/\Ow (.slice Q5) w [A E ws F] ws J:=by
 obtain⟨us,U,K,L,V⟩:=h;obtain⟨B,C,E,F,H,J,rfl,rfl,M,O,P,S,T⟩:=L.agent;exact⟨B,C,E,F,Q5v K,⟨P,S,T⟩,H,J,rfl,M,O⟩
def Qpc{X w W}(B:Q1 X w W){b:Nat}(C:b<w)(hX:¬X b){q1 E F G:Nat}{v1 H J K}(L:w.cell? (b,q1)=R v1)(M:w.cell? (b,E)=R H)(O:w.cell? (b,F)=R J)(P:w.cell? (b,G)=R K):
  (W,b,q1,v1)/\(W,b,E,H)/\(W,b,F,J)/\(W,b,G,K):=
 ⟨(B.cell C hX _).trans L,(B.cell C hX _).trans M,(B.cell C hX _).trans O,(B.cell C hX _).trans P⟩
theorem Qwb(w pb po m S)(h:Zh w pb po m S)(xb xo f yo)(kx K vx:Int)(dx:List Int)(L M:Wd)(Gx)(k s v:Int)(d:List Int)(ws:List Wd)(Gy)(hx:Q5p Q4 w xb xo (kx,K,vx,dx,[L,M]) Gx)(hy:Q5p Q4 w f yo (k,s,v,d,ws) Gy)(ax:Qao (xb::Gx) pb S)(ay:Qao (f::Gy) pb S)(E C l)(hl:Yq m (E::C::l))(E6:3 * ws.length<=l)(hd:d.length<=1000000)(hw:ws.length<=1000000):
  Bv prog 242 #[(pb,po),(xb,xo),(f,yo)] w λe w'=>∃v' S' l',e=.returned v'/\Qn w S pb po w' (Qa4 m (kx,K,vx,dx,[L,M]) (k,s,v,d,ws)).1 S' l'/\Yp w S' w' v' (Qa4 m (kx,K,vx,dx,[L,M]) (k,s,v,d,ws)).2:=by
 have BJ:=qh (Qn.start h hl);have HX:=qh hx;have HY:=qh hy;have FR:=qh ax;have FT:=qh ay;obtain⟨pd,cd,pw,cw,⟨y0,y1,y2,y3,y4⟩,iy,Gd,Gw,C6,C7,C8⟩:=hy.agent;have AS:=qh iy;have CV:=qh C7;have HD:=qh hd;have AK:=hy.lt f Ae;have AT:=D (¬(f=pb\/f∈S.all)) (λe=>ay f Ae (e.elim (λe=>e▸Ae) (Aa _)));have CW:=h.lt;have BK:=qh CW;have E7:=D (3 * ws.length<=l+3 * 0) (by omega);have BL:=Jm.nodup hl;have CX:=D (E∉l/\C∉l/\E≠C) (⟨λe=>(Ar.1 BL).1 (Aa _ e),(Ar.1 (Ar.1 BL).2).1,λe=>(Ar.1 BL).1 (e▸Ae)⟩);have A2:E<(mC m)/\C<(mC m):=by have V:=(Yq.take hl (0,0,0,[],[]));have p:=(Yq.take V.1 (0,0,0,[],[]));rw[Qg]at p;exact⟨V.2.2,p.2.2⟩
 have CY:=qh A2;have E8:=D (Qyn (E:Int)/\Qyn (C:Int)) (by have G:=h.cells.bound;unfold Bu at G;unfold Qyn;omega);have E9:=D ((([(L,((1:Int),(E:Int))),(M,((1:Int),(C:Int)))]:List Qy3)).length<=2+0) (by simp);have CZ:=qh C8;have EA:=D (∀b∈Gw,b<w.heap.size/\¬(b=pb\/b∈S.all)) (λb G=>⟨C8.lt b G,λe=>ay b (Aa _ (by rw[C6];exact Af _ G)) (e.elim (λe=>e▸Ae) (Aa _))⟩);clear BL A2 E6;have EB:=D (∀b∈Gd,b<w.heap.size/\¬(b=pb\/b∈S.all)) (λb G=>⟨C7.lt b G,λe=>ay b (Aa _ (by rw[C6];exact Ag _ G)) (e.elim (λe=>e▸Ae) (Aa _))⟩);obtain⟨_,_,FU,cx,⟨-,xl,-,-,x4⟩,D0,FV,EC,D1,-,AY⟩:=hx.agent;obtain⟨bx,ox,BM,C9⟩:=Rd.elem AY.rd 0 (by simp);obtain⟨FW,FX,CA,CB⟩:=Rd.elem AY.rd 1 (by simp);rw[BM]at CA;simp only[Bt,Addr.mk.injEq,and_true]at CA;obtain⟨rfl,rfl⟩:=CA;have A7:=D (bx<w/\¬(bx=pb\/bx∈S.all)) (by have U:bx∈EC:=AY.block0 (by rw[BM]) (by simp);exact⟨AY.lt _ U,λe=>ax bx (Aa _ (by rw[D1];exact Af _ U)) (e.elim (λe=>e▸Ae) (Aa _))⟩);have BN:=D (xb<w/\¬(xb=pb\/xb∈S.all)) (⟨hx.lt xb Ae,λe=>ax xb Ae (e.elim (λe=>e▸Ae) (Aa _))⟩);have D2:=D ((Qyn L.1/\Qyn L.2)/\(Qyn M.1/\Qyn M.2)) (⟨(At.word (t:=L.1) (a:=L.2) C9).2.2,(At.word (t:=M.1) (a:=M.2) CB).2.2⟩);have D3:=D (∀W,Q1 (λc=>c=pb\/c∈S.all) w W->(W,xb,xo+4,A (R (bx,ox)) 2 cx)/\(W,bx,ox,L.1)/\(W,bx,ox+1,L.2)/\(W,bx,ox+2,M.1)/\(W,bx,ox+3,M.2)) (λW T=>by have e0:=At.word (t:=L.1) (a:=L.2) C9;have V:=At.word (t:=M.1) (a:=M.2) CB;simp only[Ty.sz,Nat.reduceAdd,Nat.zero_mul,Nat.one_mul,Nat.add_zero,Nat.add_assoc]at e0 V;rw[BM]at x4;exact⟨(T.cell BN.o.1 BN.o.2 _).trans x4,(T.cell A7.o.1 A7.o.2 _).trans e0.1,(T.cell A7.o.1 A7.o.2 _).trans e0.2.1,(T.cell A7.o.1 A7.o.2 _).trans V.1,(T.cell A7.o.1 A7.o.2 _).trans V.2.1⟩);clear hx hy ax ay iy C7 C8 C6 hd h CW AY C9 CB BM D1 x4;have ED:=qh D0.2.1;have AL:=D (pb<w/\S.cb<w) (⟨BK.o pb Ae,BK.o S.cb (Aa _ Ae)⟩);clear D0;go_enter func242,ntmps242;go_wp2_with fail
 go_region_held3(λw'=>(w',f,yo,k)/\(w',f,yo+1,s)/\(w',f,yo+2,v)/\(w',f,yo+3,A pd d cd))
  (first|(with_reducible first|exact Qpc A8.o.fr AK AT y0 y1 y2 y3|exact Q8a BO y0 y1 y2 y3)|(refine Q8a (w:=w) ?_ y0 y1 y2 y3;go_grown))
  (first|((go_at_call 144;refine(Q3k _ d (CV.o.rd.kb (by go_grown)) (by have:=HD.o;omega)).mono ?_;rintro e w1 ⟨v1,rfl,ho,G⟩;obtain⟨p1,EE,rfl,-,-⟩:=ho.form;have BO:=D (w,w1) (Q0 (by go_grown) G);have EF:=BO.o.size;have CC:=ho.ow rfl;clear ho G;obtain⟨G1,AZ,B0,B1⟩:=CC;have B2:=qh (Cj AZ (Cj B0 B1));clear AZ B0 B1))|((go_at_call 243;refine(Q6h (BJ.o.below BO) k s v p1 N d EE 0 0 (k,s,v,d,[]) (G1++ []) (Ow.mkAgent AS.o.1 AS.o.2.1 AS.o.2.2 B2.o.1 (Ow.nil _)) (by rw[Cl];exact B2.o.2.1) (λb G U=>by rw[Cl]at G;have g:=(B2.o.2.2 b G).1;have h2:=BK.o b U;simp at g;omega) (λb G=>by rw[Cl]at G;have g:=(B2.o.2.2 b G).1;simp at g;omega)).mono ?_;rintro e w2 ⟨rfl,hs,T⟩;have A8:=qh hs;have A1:=qh T;clear hs T)))
 go_wp2_with fail
 obtain⟨m1,CD⟩:∃m1,m1=Qi m (k,s,v,d,[]):=⟨_,rfl⟩;have AM:=D (Qn w S pb po w2 m1 (S.put E (G1++ [])) (C::l)) (by rw[CD];exact A8.o);have AU:=qh CD;obtain⟨z0,z1,z2,z3⟩:=Qpc AM.o.fr AK AT y0 y1 y2 y3;have D4:=qh AM.o.mem.lt;have D5:=qh (CV.o.frame AM.o.fr EB);have FY:f<w2:=Ap AK AM.o.fr.size;have FZ:=AM.o.fr.size;clear CD A8 A1 BO EF B2 BK;generalize S.put E (G1++ [])=S1 at *
 go_region_held3(λw'=>(w',f,yo,k)/\(w',f,yo+1,s)/\(w',f,yo+2,v)/\(w',f,yo+3,A pd d cd))
  (first|(with_reducible first|exact Qpc CE.o.fr AK AT y0 y1 y2 y3|exact Q8a BP z0 z1 z2 z3)|(refine Q8a (w:=w2) ?_ z0 z1 z2 z3;go_grown))
  (first|((go_at_call 144;refine(Q3k _ d (D5.o.rd.kb (by go_grown)) (by have:=HD.o;omega)).mono ?_;rintro e w3 ⟨v1,rfl,ho,G⟩;obtain⟨p3,EG,rfl,-,-⟩:=ho.form;have BP:=D (w2,w3) (Q0 (by go_grown) G);have EH:=BP.o.size;have CC:=ho.ow rfl;clear ho G;obtain⟨G3,AZ,B0,B1⟩:=CC;have B3:=qh (Cj AZ (Cj B0 B1));clear AZ B0 B1))|((go_at_call 243;refine(Q6h (AM.o.below BP) k s v p3 N d EG 0 0 (k,s,v,d,[]) (G3++ []) (Ow.mkAgent AS.o.1 AS.o.2.1 AS.o.2.2 B3.o.1 (Ow.nil _)) (by rw[Cl];exact B3.o.2.1) (λb G U=>by rw[Cl]at G;have g:=(B3.o.2.2 b G).1;have h2:=D4.o b U;simp at g;omega) (λb G=>by rw[Cl]at G;have g:=(B3.o.2.2 b G).1;simp at g;omega)).mono ?_;rintro e w4 ⟨rfl,hs,T⟩;have CE:=qh hs;have EI:=qh T;clear hs T)))
 go_wp2_with fail
 obtain⟨n,CF⟩:∃n,n=Qi m1 (k,s,v,d,[]):=⟨_,rfl⟩;have B4:=D (Qn w S pb po w4 n (S1.put C (G3++ [])) l) (by rw[CF];exact CE.o);have BQ:=qh CF;clear CF CE EI BP EH B3 D4 AM D5 z0 z1 z2 z3;generalize S1.put C (G3++ [])=S2 at *
 obtain⟨g0,g1,g2,g3,g4⟩:=D3.o _ B4.o.fr;have D6:=Ac w4 _ g0;have D7:=Ac w4 _ g1;simp only at D6 D7
 go_region_held3(λw'=>(w',xb,xo+4,A (R (bx,ox)) 2 cx)/\(w',bx,ox,L.1)/\(w',bx,ox+1,L.2)/\(w',bx,ox+2,M.1)/\(w',bx,ox+3,M.2))
  (first|(with_reducible first|exact Qde (A9.o) g0 g1 g2 g3 g4|exact Qde (CG.o) g0 g1 g2 g3 g4|exact Qde (A9.o.alloc A9.o.size _) g0 g1 g2 g3 g4)|(refine Qde (w:=w4) ?_ g0 g1 g2 g3 g4;go_grown))
  (first|((go_at_call 240;refine jR (Vv (E:Int)) λw5 G=> ?_;have CG:=D (w4,w5) (Q0 (by go_grown) G);clear G))|((go_at_call 240;refine jR (Vv (C:Int)) λw6 G=> ?_;have A9:=D (w4,w6) (Q0 CG G);clear G)))
 go_wp2_with fail
 have EJ:=D (Below w4 w4 (w6.alloc (.cells #[L.1,L.2,I Z 1,E,M.1,M.2,I Z 1,C] 146))) (A9.o.alloc A9.o.size _)
 have D8:=qh (show Yp w S2 (w6.alloc (.cells #[L.1,L.2,I Z 1,E,M.1,M.2,I Z 1,C] 146)) (A (R (w6,0)) 2 2) [(L,((1:Int),(E:Int))),(M,((1:Int),(C:Int)))]from
  Yp.ofOwn (B:=w6) (Qxu.of_block (t:=Z7) (xs:=[(L,((1:Int),(E:Int))),(M,((1:Int),(C:Int)))]) (Bg w6 _) (Aj _) rfl rfl (by
   have g:=E8.o;intro y hy;simp only[List.mem_cons,List.not_mem_nil,or_false]at hy;rcases hy with rfl|rfl
   ·exact⟨D2.o.1,⟨show Qyn 1 by unfold Qyn;omega,g.1⟩⟩
   exact⟨D2.o.2,⟨show Qyn 1 by unfold Qyn;omega,g.2⟩⟩) (by simp[Bu])) (Au B4.o.fr.size A9.o.size) (λb U=>Ap (B4.o.mem.lt b (Aa _ U)) A9.o.size))
 have D9:=qh (B4.o.below EJ);have EK:=D ((mC n).length=(mC m)) (by rw[BQ.o,Qg,AU.o,Qg]);have EL:=D ((aW (Q7 (mC n) (E:Int))).length=0/\(aW (Q7 (mC n) (C:Int))).length=0) (by
  have V:=(BJ.o.first (k,s,v,d,[]));have p:=V.2.2;rw[<-AU.o]at p;have e3:=(Yq.take p (k,s,v,d,[]));rw[BQ.o,Yr,Yr,e3.2.1,AU.o,Yr,Yr,V.1,Qg];have:=CY.o;constructor
  ·rw[if_neg (by have:=CX.o.2.2;simp;omega),if_pos (by simp;omega)];rfl
  rw[if_pos (by simp;omega)];rfl)
 have DA:=D (Qa4 m (kx,K,vx,dx,[L,M]) (k,s,v,d,ws)=ws.foldl (Zq K E C) (n,[(L,((1:Int),(E:Int))),(M,((1:Int),(C:Int)))])) (by have V:=(BJ.o.first (k,s,v,d,[])).1;have p:=(BJ.o.first (k,s,v,d,[])).2.2;rw[<-AU.o]at p;have e3:=(Yq.take p (k,s,v,d,[])).2.1;rw[BQ.o];simp only[Qa4,aK,aL,aV,aD,aW];rw[V,<-AU.o,e3];rfl);clear g0 g1 g2 g3 g4 D6 D7 CG A9 AU BQ B4 D3;generalize w6.alloc (.cells #[L.1,L.2,I Z 1,E,M.1,M.2,I Z 1,C] 146)=W7 at *
 generalize ([(L,((1:Int),(E:Int))),(M,((1:Int),(C:Int)))]:List Qy3)=out0 at *
 go_loopw [9,10] (λu i wr=>∃(j:Nat) (S':MS) (l':List Nat),j<=ws/\i=I Z j/\Hd (Qn w S pb po wr ((ws.take j).foldl (Zq K E C) (n,out0)).1 S' l')/\Hd (Yp w S' wr u ((ws.take j).foldl (Zq K E C) (n,out0)).2)/\
  Hd (3 * ws.length<=l'.length+3 * j)/\Hd (E∉l'/\C∉l'/\E≠C)/\Hd (E<(mC ((ws.take j).foldl (Zq K E C) (n,out0)).1)/\C<(mC ((ws.take j).foldl (Zq K E C) (n,out0)).1))/\Hd (((ws.take j).foldl (Zq K E C) (n,out0)).2.length<=2+j)/\Hd ((aW (Q7 (mC ((ws.take j).foldl (Zq K E C) (n,out0)).1) (E:Int)))=j/\(aW (Q7 (mC ((ws.take j).foldl (Zq K E C) (n,out0)).1) (C:Int)))=j)) (λ_ i _=>ws.length-(intOf i).toNat)
 case atStart=>exact⟨0,S2,l,Ak _,rfl,D9.o,D8.o,E7.o,CX.o,(by rw[List.take_zero];show E<(mC n)/\C<(mC n);rw[EK.o];exact CY.o),E9.o,EL.o⟩
 obtain⟨j,S',l',hj,rfl,r,HO,DB,HC,AA,DC,CH⟩:=hrel;clear D9 D8;by_cases BR:j<ws
 ·have BS:3<=l'.length:=by have:=DB.o;omega
  obtain⟨O,J,H,l3,rfl⟩:∃O J H l3,l'=O::J::H::l3:=by
   match l',BS with
   |O::J::H::l3,_=>exact⟨O,J,H,l3,rfl⟩
  have B5:=D ((ws.take (j+1)).foldl (Zq K E C) (n,out0)=Zq K E C ((ws.take j).foldl (Zq K E C) (n,out0)) ws[j]) (by rw[An BR,List.foldl_append];rfl);generalize (ws.take j).foldl (Zq K E C) (n,out0)=Fj at *
  obtain⟨mj,oj⟩:=Fj;have r:=D (Qn w S pb po wr mj S' (O::J::H::l3)) (r.o);obtain⟨by_,oy,DD,hE⟩:=Rd.elem CZ.o.rd j BR;have AV:=qh (EA.o by_ (CZ.o.block0 DD (by intro e;rw[e]at BR;simp at BR)));generalize hwd:ws[j]=wd at *
  obtain⟨wt,wa⟩:=wd;obtain⟨f0,f1,DE,DF⟩:=At.word hE;simp only[Ty.sz,Nat.reduceAdd]at f0 f1;have BT:=qh (Cj DE DF);clear hE hwd BS DE DF;subst DD;have G0:=r.o.fr.size;have AN:=(r.o.cell AK (λe=>AT.o ((Aq.1 e).imp id id)) (yo+4)).trans y4;have EM:=(r.o.cell BN.o.1 (λe=>BN.o.2 ((Aq.1 e).imp id id)) (xo+1)).trans xl;have G2:(0:Int)<=j:=by omega
  have G4:(j:Int)<ws:=by omega
  obtain⟨pu,cu,rfl⟩:=HO.o.form;go_wp2_with(first|((go_at_call 243;refine(Q6h r.o 4 K 0 N N 0 0 0 0 (4,K,0,[],[]) [] (Ow.mkAgent (by unfold Qyn;omega) ED (by unfold Qyn;omega) (Ow.nil _) (Ow.nil _)) (by simp) (by simp) (by simp)).mono ?_;rintro e w8 ⟨rfl,hs,T⟩;have DG:=qh hs;have DH:=qh T;have EN:=T.size;clear hs T))|((go_at_call 260;refine(Qbu DG).mono ?_;rintro e Y ⟨rfl,hs,T⟩;have DI:=qh hs;have DJ:=qh T;have EO:=T.size;clear hs T))|((go_at_call 260;refine(Qbu (DI.o.below (show Below Y Y (Y.alloc (.cells #[I Z 2,J] 40))by go_grown))).mono ?_;rintro e P ⟨rfl,hs,T⟩;have DK:=qh hs;have CI:=qh T;have DL:=T.size;clear hs T)))
  have HU:=D ((P.alloc (.cells #[I Z 2,H] 40)).heap[Y.heap.size]?=R (.cells #[I Z 2,J] 40)) (Z3 ((CI.o.block Y (by simp) (by have:=AL.o;omega)).trans (Bg Y _)));have HV:=D ((P.alloc (.cells #[I Z 2,H] 40)).heap[P.heap.size]?=R (.cells #[I Z 2,H] 40)) (Bg P _);have CJ:=D (Below P P (P.alloc (.cells #[I Z 2,H] 40))) (by go_grown);have EP:=D (∀b∈(((S'.put O []).put J []).put H []).all,b∈S'.all) (λb U=>by
   rcases Y0 U with h|h
   ·simp at h
   rcases Y0 h with h|h
   ·simp at h
   rcases Y0 h with h|h
   ·simp at h
   exact h)
  have DM:=D (Yp w (((S'.put O []).put J []).put H []) _ _ _) (HO.o.step (X:=λc=>c=pb\/c=S.cb) (DH.o.trans (DJ.o.trans (((Q1.refl _ Y).alloc (.cells #[I Z 2,J] 40)).trans (CI.o.trans (Ay CJ))))) (λc hc=> .inl (by have:=AL.o;omega)) (λb G=> .inl (EP.o b G)));have A3:=qh (DK.o.below CJ);have EQ:=qh (Jm.nodup r.o.free);have BU:=D (∀b∈(((S'.put O []).put J []).put H []).all,b<Y.heap.size) (λb U=>by
   have g:b∈S'.all:=by
    rcases Y0 U with h|h
    ·simp at h
    rcases Y0 h with h|h
    ·simp at h
    rcases Y0 h with h|h
    ·simp at h
    exact h
   have:=r.o.mem.lt b (Aa _ g);omega)
  have BV:=D ((mC (Qw (Qw (Qi mj (4,K,0,[],[]))))).length=(mC mj)) (by unfold Qw;rw[Qg,Qg,Qg]);have DN:=qh (r.o.first (4,K,0,[],[])).2.1;have ER:P.heap.size<(P.alloc (.cells #[I Z 2,H] 40)).heap.size:=by simp
  have ES:w.heap.size<=Y:=by omega
  have G5:Y.heap.size<P:=by simp at DL;omega
  obtain⟨m3,CK⟩:∃m3,m3=Qw (Qw (Qi mj (4,K,0,[],[]))):=⟨_,rfl⟩;rw[<-CK]at A3 BV;have CL:=qh CK;clear CK DK CI DI DJ DG DH HO EN EO DL AN EM CJ;generalize ((S'.put O []).put J []).put H []=S3 at *
  generalize P.alloc (.cells #[I Z 2,H] 40)=W11 at *
  have BW:=D (Qyn (J:Int)/\Qyn (H:Int)) (by have G:=r.o.mem.cells.bound;have V:=r.o.first Z6;have p:=Yq.take V.2.2 Z6;have e3:=Yq.take p.1 Z6;rw[Qg]at p e3;rw[Qg]at e3;unfold Bu at G;unfold Qyn;omega);go_cut [100] (λ_ wx=>∃S4,Hd (Qn w S pb po wx (Qa m3 (O:Int) [((2:Int),(J:Int)),(2,(H:Int))]) S4 l3)/\Hd (Yp w S4 wx (A pu oj cu) oj)/\Hd (wx,oC Y.heap.size #[I Z 2,J] 40)/\Hd (wx,oC P.heap.size #[I Z 2,H] 40)/\Hd (Y.heap.size∉S4.all/\P.heap.size∉S4.all)/\W11.heap.size<=wx)
  case first=>
   obtain⟨pf,cf,G6,G7,G8,AO,AP,AB,AC⟩:=A3.o.focusN (i:=O) (by rw[BV.o];exact DN.o) (λe=>(Ar.1 EQ).1 (Aa _ (Aa _ e)));have B6:=qh AC;have AD:=qh AB;clear AO AP AB AC;obtain⟨_,_,c0,-,-,-,-,-,-,-,-⟩:=A3.o.mem.head;have AE:=A3.o.mem.cells.bound;unfold Bu at AE;obtain⟨DO,DP⟩:=AE;obtain⟨B7,DQ⟩:=A3.o.mem.ne;have BX:=λq=>A3.o.mem.cells.blk.free q;obtain⟨⟨u0,u1⟩,-⟩:=Zj HU;obtain⟨⟨v0,v1⟩,-⟩:=Zj HV;have DR:=A3.o.mem.blk.lt;have A2:=A3.o.mem.cells.blk.lt;have AF:=A3.o.cb;have DS:S3.cb<w:=by rw[AF];exact AL.o.2
   have G9:pb<w:=AL.o.1;clear AF;have A5:Y≠S3.cb:=by omega
   have CM:P≠S3.cb:=by omega
   have GA:(0:Int)<=O:=by omega
   have GB:(O:Int)<(mC m3):=by have:=BV.o;have:=DN.o;omega
   have ET:=qh (Q62 (X:=λc=>c=S3.cb) (((Zw W11 S3.cb (S3.o+O * 5+4) (A (R (W11,0)) 2 2)).alloc (.cells #[I Z 2,J,I Z 2,H] 40)).drew) c0 u0 u1 v0 v1 B7 A5 A5 CM CM)
   go_region_held3(λw'=>(w',pb,po,A (R (S3.cb,S3.o)) (mC m3) S3.cap)/\(w',Y.heap.size,0,I Z 2)/\(w',Y.heap.size,1,J)/\(w',P.heap.size,0,I Z 2)/\(w',P.heap.size,1,H))
    (first|exact ET.o|(refine Qde (w:=W11) ?_ c0 u0 u1 v0 v1;go_grown))
    (first|fail)
   go_wp2
   go_meet;have CN:=B6.o (W11.alloc (.cells #[I Z 2,J,I Z 2,H] 40)) (R ⟨W11,0,N⟩) 2 2 [((2:Int),(J:Int)),(2,(H:Int))] [W11.heap.size] ((Q1.refl _ _).alloc _) (Qb8 (Bg W11 _) (by unfold Qyn;omega) BW.o.1 (by unfold Qyn;omega) BW.o.2) rfl (by simp) (λb G=> .inr (by simp at G;omega));rw[World.setCell_alloc_past _ _ _ _ A2]at CN;have A0:=D (Qn w S pb po _ _ _ _) (CN.1.drew);have BY:=qh (((Zw W11 S3.cb (S3.o+O * 5+4) (A (R (W11,0)) 2 2)).alloc (.cells #[I Z 2,J,I Z 2,H] 40)).drew);have BZ:=qh (DM.o.step BY (λc hc=> .inl (by omega)) CN.2.1.2.2.2);have C0:=qh ((BY.o.block P ER CM).trans HV);have C1:=qh ((BY.o.block Y (by omega) A5).trans HU);exact⟨_,A0.o,BZ.o,C1.o,C0.o,⟨λU=>(Y0 U).elim (λh=>(At0.1 h).elim (λh=>by have:=BU.o _ (AD.o _ (Ag _ h)).1;omega) (λh=>by simp at h;omega)) (λh=>by have:=BU.o _ h;omega),λU=>(Y0 U).elim (λh=>(At0.1 h).elim (λh=>by have:=BU.o _ (AD.o _ (Ag _ h)).1;omega) (λh=>by simp at h;omega)) (λh=>by have:=BU.o _ h;omega)⟩,BY.o.size⟩
  obtain⟨S4,A0,BZ,C1,C0,AW,GC⟩:=hcut;rename Bh=>W12
  obtain⟨m4,CO⟩:∃m4,m4=Qa m3 (O:Int) [((2:Int),(J:Int)),(2,(H:Int))]:=⟨_,rfl⟩;rw[<-CO]at A0;have C2:=qh CO;clear CO A3 DM HU HV;have B8:=D (E∉l3/\C∉l3/\E≠O/\C≠O/\E≠J/\C≠J/\E≠H/\C≠H) (by obtain⟨g,h2,_⟩:=HC.o;simp only[List.mem_cons,not_or]at g h2;exact⟨g.2.2.2,h2.2.2.2,g.1,h2.1,g.2.1,h2.2.1,g.2.2.1,h2.2.2.1⟩);have B9:=D ((mC m4).length=(mC mj)) (by rw[C2.o,Q2a,BV.o]);have CP:=D (Q7 (mC m4) (E:Int)=Q7 (mC mj) (E:Int)/\Q7 (mC m4) (C:Int)=Q7 (mC mj) (C:Int)) (by
   have V:=r.o.first (4,K,0,[],[]);have p:=Yq.take V.2.2 Z6;have e3:=Yq.take p.1 Z6;have hn:=B8.o;constructor
   ·rw[C2.o];unfold Qa;rw[Q39,if_neg (by simp;omega),CL.o];unfold Qw;rw[Yr,if_neg (by rw[e3.2.1];simp;omega),Yr,if_neg (by rw[p.2.1];simp;omega),Yr,if_neg (by rw[V.1];simp;omega)]
   rw[C2.o];unfold Qa;rw[Q39,if_neg (by simp;omega),CL.o];unfold Qw;rw[Yr,if_neg (by rw[e3.2.1];simp;omega),Yr,if_neg (by rw[p.2.1];simp;omega),Yr,if_neg (by rw[V.1];simp;omega)])
  have GD:w.heap.size<=Y:=ES;obtain⟨iw,DT,DU,DV,DW⟩:=info_parts Q0a;go_upto_region 11 with fail
  go_cut [118] (λ_ wx=>∃S5,Hd (Qn w S pb po wx (J4 m4 (E:Int) (2,(J:Int))) S5 l3)/\Hd (Yp w S5 wx (A pu oj cu) oj)/\Hd (wx,oC P.heap.size #[I Z 2,H] 40)/\Hd (P.heap.size∉S5.all)/\W12.heap.size<=wx)
  case first=>
   obtain⟨EU,EV,GE,BA,EW,AO,AP,AB,AC⟩:=A0.o.focusN (i:=E) (by rw[B9.o];exact AA.o.1) B8.o.1;have B6:=qh AC;have BB:=qh AO;have CQ:=qh AP;have AD:=qh AB;clear AC AO AP AB;have EX:=D ((aW (Q7 (mC m4) (E:Int)))=j) (by rw[CP.o.1];exact CH.o.1);obtain⟨_,_,c0,-,-,-,-,-,-,-,-⟩:=A0.o.mem.head;have AE:=A0.o.mem.cells.bound;unfold Bu at AE;obtain⟨DO,DP⟩:=AE;obtain⟨B7,DQ⟩:=A0.o.mem.ne;have BX:=λq=>A0.o.mem.cells.blk.free q;obtain⟨⟨u0,u1⟩,-⟩:=Zj C1;have DR:=A0.o.mem.blk.lt;have A2:=A0.o.mem.cells.blk.lt;have EY:(0:Int)<=E:=by omega
   have EZ:E<(mC m4):=by have:=B9.o;have:=AA.o.1;omega
   have F0:(E:Int)<(mC m4):=by have:=B9.o;have:=AA.o.1;omega
   have AF:=A0.o.cb;have DS:S4.cb<w:=by rw[AF];exact AL.o.2
   clear AF;have A5:Y≠S4.cb:=by omega
   have F1:=Q7a;rw[<-Q7a _ (.tmp 114)]
   go_region_held3(λw'=>(w',pb,po,A (R (S4.cb,S4.o)) (mC m4) S4.cap)/\(w',Y.heap.size,0,I Z 2)/\(w',Y.heap.size,1,J))
    (first|exact F2.o|exact F3.o|(refine Qc5 (w:=W12) ?_ c0 u0 u1;go_grown))
    ((refine Yk _ rfl (.tmp 115) (.tmp 117) 121 rfl (e:=Q5) 40 iw _ 16 underlying121 DT DU DV DW rfl (by decide) (v:=A EU (aW (Q7 (mC m4) (E:Int))) EV) (xs:=aW (Q7 (mC m4) (E:Int))) (y:=((2:Int),(J:Int))) (vs:=[I Z 2,J]) (F:=BA) W12 1 rfl rfl (BB.o.kept λb G=>Az _ _ _ (BB.o.lt b G)) CQ (Ow.word (by unfold Qyn;omega) BW.o.1) (Q76 (Q6 (Bg W12.drew _) rfl) (Q6 (Bg W12.drew _) rfl)) Qni (by have:=EX.o;omega) ?_;intro p2 k2 DX F4 AG AH AI AJ;have CR:=qh AG;have CS:=qh AH;have A8:=qh AI;have A1:=qh (Q1.trans (show Q1 (λc=>c∈BA) W12 _ by first|exact((Q1.refl _ W12).drew).alloc _|exact((Q1.refl _ W12).alloc _).drew) AJ);have BC:S4.cb∉BA:=λe=>(AD.o _ (Af _ e)).2.2 rfl;have CT:pb∉BA:=λe=>(AD.o _ (Af _ e)).2.1 rfl;have BD:Y.heap.size∉BA:=λe=>AW.o.1 (AD.o _ (Af _ e)).1;have x4:=(A1.o.cell A2 BC (S4.o+E * 5+4)).trans EW;have xf:=λq=>(A1.o.frozen A2 BC q).trans (BX q);have hk:=Qc9 A1 c0 u0 u1 CT BD BD;have F2:=qh hk;have F3:=qh (Qc9 (X:=λc=>c=S4.cb) (Zw DX S4.cb (S4.o+E * 5+4) (A p2 ((aW (Q7 (mC m4) (E:Int)))+1) k2)) hk.1 hk.2.1 hk.2.2 B7 A5 A5);clear AG AH AI AJ hk))
   all_goals
    go_wp2
    go_meet;have BE:=B6.o DX p2 ((aW (Q7 (mC m4) (E:Int)))+1) k2 (aW (Q7 (mC m4) (E:Int))++ [((2:Int),(J:Int))]) F4 A1 CR (by simp) CS (λb G=>(A8.o b G).imp id λe=>by rw[e];simp);exact⟨_,BE.1,BZ.o.step BE.2.2 (λc hc=> .inr hc) BE.2.1.2.2.2,(BE.2.2.block P (by omega) AW.o.2).trans C0,(λU=>by
     rcases Y0 U with h|h
     ·rcases At0.1 h with h|h
      ·exact AW.o.2 (AD.o _ (Ag _ h)).1
      rcases A8.o _ h with h|h
      ·exact AW.o.2 (AD.o _ (Af _ h)).1
      simp at h;omega
     exact AW.o.2 h),BE.2.2.size⟩
  obtain⟨S5,A6,F5,F6,F7,GF⟩:=hcut;rename Bh=>W14
  obtain⟨z,BF⟩:∃z,z=J4 m4 (E:Int) (2,(J:Int)):=⟨_,rfl⟩;rw[<-BF]at A6;have DY:=qh BF;have BG:=D ((mC z).length=(mC mj)) (by rw[BF];unfold J4;rw[Q2a,B9.o]);have DZ:=D (Q7 (mC z) (C:Int)=Q7 (mC mj) (C:Int)) (by rw[BF];unfold J4 Qa;rw[Q39,if_neg (by have:=HC.o.2.2;simp;omega)];exact CP.o.2);clear BF A0 BZ C1 C0 AW;go_upto_region 12 with fail
  go_cut [136] (λ_ wx=>∃S6,Hd (Qn w S pb po wx (J4 z (C:Int) (2,(H:Int))) S6 l3)/\Hd (Yp w S6 wx (A pu oj cu) oj)/\W14.heap.size<=wx)
  case first=>
   obtain⟨F8,F9,GG,BH,FA,AO,AP,AB,AC⟩:=A6.o.focusN (i:=C) (by rw[BG.o];exact AA.o.2) B8.o.2.1;have B6:=qh AC;have BB:=qh AO;have CQ:=qh AP;have CU:=qh AB;clear AC AO AP AB;have FB:=D ((aW (Q7 (mC z) (C:Int)))=j) (by rw[DZ.o];exact CH.o.2);obtain⟨_,_,c0,-,-,-,-,-,-,-,-⟩:=A6.o.mem.head;have AE:=A6.o.mem.cells.bound;unfold Bu at AE;obtain⟨DO,DP⟩:=AE;obtain⟨B7,DQ⟩:=A6.o.mem.ne;have BX:=λq=>A6.o.mem.cells.blk.free q;obtain⟨⟨u0,u1⟩,-⟩:=Zj F6;have DR:=A6.o.mem.blk.lt;have A2:=A6.o.mem.cells.blk.lt;have EY:(0:Int)<=C:=by omega
   have EZ:C<(mC z):=by have:=BG.o;have:=AA.o.2;omega
   have F0:(C:Int)<(mC z):=by have:=BG.o;have:=AA.o.2;omega
   have AF:=A6.o.cb;have DS:S5.cb<w:=by rw[AF];exact AL.o.2
   clear AF;have A5:P≠S5.cb:=by omega
   have F1:=Q7a;rw[<-Q7a _ (.tmp 132)]
   go_region_held3(λw'=>(w',pb,po,A (R (S5.cb,S5.o)) (mC z) S5.cap)/\(w',P.heap.size,0,I Z 2)/\(w',P.heap.size,1,H))
    (first|exact FC.o|exact FD.o|(refine Qc5 (w:=W14) ?_ c0 u0 u1;go_grown))
    ((refine Yk _ rfl (.tmp 133) (.tmp 135) 121 rfl (e:=Q5) 40 iw _ 16 underlying121 DT DU DV DW rfl (by decide) (v:=A F8 (aW (Q7 (mC z) (C:Int))) F9) (xs:=aW (Q7 (mC z) (C:Int))) (y:=((2:Int),(H:Int))) (vs:=[I Z 2,H]) (F:=BH) W14 1 rfl rfl (BB.o.kept λb G=>Az _ _ _ (BB.o.lt b G)) CQ (Ow.word (by unfold Qyn;omega) BW.o.2) (Q76 (Q6 (Bg W14.drew _) rfl) (Q6 (Bg W14.drew _) rfl)) Qni (by have:=FB.o;omega) ?_;intro p2 k2 E0 FE AG AH AI AJ;have CR:=qh AG;have CS:=qh AH;have A8:=qh AI;have A1:=qh (Q1.trans (show Q1 (λc=>c∈BH) W14 _ by first|exact((Q1.refl _ W14).drew).alloc _|exact((Q1.refl _ W14).alloc _).drew) AJ);have BC:S5.cb∉BH:=λe=>(CU.o _ (Af _ e)).2.2 rfl;have CT:pb∉BH:=λe=>(CU.o _ (Af _ e)).2.1 rfl;have BD:P.heap.size∉BH:=λe=>F7.o (CU.o _ (Af _ e)).1;have x4:=(A1.o.cell A2 BC (S5.o+C * 5+4)).trans FA;have xf:=λq=>(A1.o.frozen A2 BC q).trans (BX q);have hk:=Qc9 A1 c0 u0 u1 CT BD BD;have FC:=qh hk;have FD:=qh (Qc9 (X:=λc=>c=S5.cb) (Zw E0 S5.cb (S5.o+C * 5+4) (A p2 ((aW (Q7 (mC z) (C:Int)))+1) k2)) hk.1 hk.2.1 hk.2.2 B7 A5 A5);clear AG AH AI AJ hk))
   all_goals
    go_wp2
    go_meet;have C3:=B6.o E0 p2 ((aW (Q7 (mC z) (C:Int)))+1) k2 (aW (Q7 (mC z) (C:Int))++ [((2:Int),(H:Int))]) FE A1 CR (by simp) CS (λb G=>(A8.o b G).imp id λe=>by rw[e];simp);exact⟨_,C3.1,F5.o.step C3.2.2 (λc hc=> .inr hc) C3.2.1.2.2.2,C3.2.2.size⟩
  obtain⟨S6,AX,FF,GH⟩:=hcut;rename Bh=>W16
  have AN:=(AX.o.cell AK (λe=>AT.o ((Aq.1 e).imp id id)) (yo+4)).trans y4;have C4:=(AX.o.cell AV.o.1 (λe=>AV.o.2 ((Aq.1 e).imp id id)) _).trans f0;have C5:=(AX.o.cell AV.o.1 (λe=>AV.o.2 ((Aq.1 e).imp id id)) _).trans f1;have GI:=AX.o.fr.size;have E1:=D (Qyn (O:Int)) (by have G:=r.o.mem.cells.bound;have V:=r.o.first Z6;unfold Bu at G;unfold Qyn;omega);have GJ:f<W16:=by omega
  have GK:by_<W16:=by have:=AV.o.1;omega
  obtain⟨il,FG,FH,FI,BS⟩:=info_parts Q1d;have GL:=qh (Q29 (t:=Z7) (x:=((wt,wa),((1:Int),(O:Int)))) (Q8l BT.o.1 BT.o.2 (by unfold Qyn;omega) E1));obtain⟨Fo,E2⟩:=FF.o;have A4:=qh E2;clear E2;have BI:=D (Zq K E C (mj,oj) (wt,wa)=(J4 z (C:Int) (2,(H:Int)),oj++ [((wt,wa),((1:Int),(O:Int)))])) (by have V:=r.o.first (4,K,0,[],[]);have p:=Yq.take V.2.2 Z6;have e3:=Yq.take p.1 Z6;rw[DY.o,C2.o,CL.o];unfold Zq Qw;simp only;rw[V.1,p.2.1];show(J4 (J4 (Qa (Qi (Qi (Qi mj (4,K,0,[],[])) Z6) Z6) (O:Int) [(2,(J:Int)),(2,mF (Qi (Qi mj (4,K,0,[],[])) Z6))]) E (2,(J:Int))) C (2,mF (Qi (Qi mj (4,K,0,[],[])) Z6)),_)=_;rw[e3.2.1]);have FJ:=D ((aW (Q7 (mC (J4 z (C:Int) (2,(H:Int)))) (E:Int)))=j+1/\(aW (Q7 (mC (J4 z (C:Int) (2,(H:Int)))) (C:Int)))=j+1) (by
   have g:=HC.o.2.2;have h2:E<(mC mj)/\C<(mC mj):=AA.o;have h3:=CH.o;constructor
   ·unfold J4 Qa;rw[Q39,if_neg (by simp;omega),DY.o];unfold J4 Qa;rw[Q39,if_pos (by rw[B9.o];simp;omega)];simp only[aW,Bo,Dg];have:=CP.o.1;rw[this];exact congrArg (· +1) h3.1
   unfold J4 Qa;rw[Q39,if_pos (by rw[BG.o];simp;omega)];simp only[aW,Bo,Dg];have:=DZ.o;rw[this];exact congrArg (· +1) h3.2)
  go_wp2_with fail
  go_region_held3(λw'=>(w',f,yo+4,A (R (by_,oy)) ws cw)/\(w',by_,oy+j * 2,wt)/\(w',by_,oy+j * 2+1,wa))
   (first|exact FK.o|(with_reducible first|exact Qc5 AQ AN C4 C5|exact Qc5 (AQ.o.alloc AQ.o.size _) AN C4 C5)|(refine Qc5 (w:=W16) ?_ AN C4 C5;go_grown))
   (first|((go_at_call 240;refine jR (Vv (O:Int)) λAR G=> ?_;have AQ:=D (W16,AR) (Q0 (by go_grown) G);have GM:=AQ.o.size;clear G))|((refine Yk _ rfl (.tmp 139) (.tmp 150) 114 rfl (e:=Z7) 146 il _ 32 underlying114 FG FH FI BS rfl (by decide) (v:=A pu oj cu) (xs:=oj) (y:=((wt,wa),((1:Int),(O:Int)))) (vs:=[wt,wa,I Z 1,O]) (F:=Fo) AR 1 rfl rfl (A4.o.1.kept λb G=>(Az _ _ _ (Ap (A4.o.1.lt b G) AQ.o.size)).trans (AQ.o.block b (A4.o.1.lt b G))) A4.o.2.1 (Ow.link BT.o.1 BT.o.2 (by unfold Qyn;omega) E1) (Qaf (Q6 (Bg AR _) rfl) (Q6 (Bg AR _) rfl) (Q6 (Bg AR _) rfl) (Q6 (Bg AR _) rfl)) Qmj (by have h9:oj.length<=2+j:=DC.o;omega) ?_;intro GN GO GP FL AG AH AI AJ;have FM:=qh AG;have FN:=qh AH;have FO:=qh AI;have E3:=qh (Q1.trans (((Ay AQ.o:Q1 (λc=>c∈Fo) W16 AR)).alloc _) AJ);have FP:f∉Fo:=λe=>by {have:=(A4.o.2.2 _ e).1;omega};have E4:by_∉Fo:=λe=>by {have:=(A4.o.2.2 _ e).1;have:=AV.o.1;omega};have FK:=qh (Qc9 E3 AN C4 C5 FP E4 E4);clear AG AH AI AJ)))
  go_wp2
  go_roundw;case rel=>exact⟨j+1,S6,l3,by omega,by go_num,(show Qn _ _ _ _ _ _ _ _ by rw[B5.o,BI.o];exact AX.o.other E3 (λc hc=>⟨λU=>(Aq.1 U).elim (λe=>by have:=(A4.o.2.2 c hc).1;have:=AL.o.1;omega) (A4.o.2.2 c hc).2,(A4.o.2.2 c hc).1⟩)),(show Yp _ _ _ _ _ by rw[B5.o,BI.o];exact⟨FL,FM.o,FN.o,λb G=>(FO.o b G).elim (λh=>A4.o.2.2 b h) (λe=>⟨by rw[e];simp;omega,λU=>by have:=AX.o.mem.lt b (Aa _ U);rw[e]at this;simp at this;omega⟩)⟩),(show _<=_ by have:=DB.o;simp only[List.length_cons]at this;omega),(show _/\_/\_ from⟨B8.o.1,B8.o.2.1,HC.o.2.2⟩),(show _/\_ by rw[B5.o,BI.o];simp only;unfold J4;rw[Q2a,BG.o];exact AA.o),(show _<=_ by rw[B5.o,BI.o];simp only[Bo,Dg];have h9:oj.length<=2+j:=DC.o;omega),(show _/\_ by rw[B5.o,BI.o];exact FJ.o)⟩
  simp[intOf];omega
 have FQ:ws<=j:=by omega
 have E5:=D (ws.take j=ws) (Ao FQ);have AN:=(r.o.cell AK (λe=>AT.o ((Aq.1 e).imp id id)) (yo+4)).trans y4;go_wp2
 go_ret;refine⟨_,S',l',rfl, ?_, ?_⟩
 ·rw[DA.o];rw[E5.o]at r;exact r.o
 rw[DA.o];rw[E5.o]at HO;exact HO.o
def Qug{w}{n:Int}:Bv prog 262 #[n] w λe w'=>e=.returned (Qxy n)/\w=w':=by
 go_enter func262,ntmps262;go_wp2;go_ret;exact⟨Qt (Qs0 n),rfl⟩
def Quf{w}{n:Int}:Bv prog 296 #[n] w λe w'=>e=.returned (Qxy n)/\w=w':=by
 go_enter func296,ntmps296;go_wp2;go_ret;exact⟨Qt (Qpp n),rfl⟩
def Qmm{w}{B a b:Int}:Bv prog 244 #[B,a,b] w λe w'=>e=.returned (J6 B a b)/\w=w':=by
 have C:=Q5r a;have E:=Q5r b;go_enter func244,ntmps244;go_wp2_with(first|(go_at_call 262;refine jX (Qug) ?_)|(go_at_call 263;refine jX (Qv4) ?_))
 all_goals first
  |(go_ret;exact⟨Qt (by simp_all[J6]),rfl⟩)
  |(exfalso;simp_all;done)
def Qmd{w}{B a b:Int}:Bv prog 282 #[B,a,b] w λe w'=>e=.returned (J6 B a b)/\w=w':=by
 have C:=Q5r a;have E:=Q5r b;go_enter func282,ntmps282;go_wp2_with(first|(go_at_call 296;refine jX (Quf) ?_)|(go_at_call 69;refine jX (Q3f _) ?_))
 all_goals first
  |(go_ret;exact⟨Qt (by simp_all[J6]),rfl⟩)
  |(exfalso;simp_all;done)
end Go.Proofs.YtcjngpfigpglfaaGreatDoor
