import Derived.Deep.RegionHeld3
import Derived.Test.YthbpkpnioaniiaaGreatP00
set_option maxHeartbeats 40000000
set_option maxRecDepth 100000
set_option linter.all false
namespace Go.Proofs.YthbpkpnioaniiaaGreat
open Go.RowKit Go.Proofs.Tryz
open Go.Value renaming int->I,slice->A
open Go.IntKind renaming i64->Z
open Option renaming none->N,some->R
open Bool renaming true->Bn,false->Bm,and_eq_true->Bl,false_eq_true->Cv
open Go renaming Value->Bk,World->Bh,TypeId->Cf,maxLen->Bp,Program->Eq,Addr->Cm,heap_alloc_new->Bg,Calls->Bq
open Go.Builtin renaming append_->Ev,zeroCells->Ez
open Go.Value renaming ownBlock->Di
open Go.World renaming cell?->Er
open Int renaming toNat_natCast->By
open List renaming length_append->Bo,getElem_append_left->Ib,getElem_append_right->Hw,append_assoc->Dd,length_drop->Df,mem_flatten->Ht,flatten_append->Gf,range->Bz,replicate->Cl,length_cons->Bs,mem_filter->Dn,length_set->Br,getElem_set_ne->Dy,pairwise_flatten->Dv,pairwise_iff_getElem->Do,ext_getElem?->Du,getElem?_take->Cu,getElem?_drop->Ct,getElem?_eq_none->El,cons_append->Cc,nil_append->Bt,flatMap_append->Ek,all_eq_false->Fb
open Nat renaming succ_mul->Dq,zero_add->Cd,add_mul->Hn,add_assoc->Hb,lt_or_gt_of_ne->En,not_lt_zero->Da,mul_one->Cb
open Option.some renaming injEq->Bu
theorem Qag(g:Nat):∀(vs:List Bk) (o:Nat) (w:Bh),w.setCells g o vs=Qrf w g o vs
 | [],_,_=>rfl
 |v::r,o,w=>by rw[World.setCells,Qrf,Qag g r]
theorem Q8g{B Gs:List (List Nat)}{i:Nat}(h:i<B.length):(B++Gs).getD i []=B.getD i []:=by
 rw[Ab,Ab,List.getElem?_append_left h]
theorem Q7g{B Gs:List (List Nat)}{n j:Nat}(h:B.length=n):(B++Gs).getD (n+j) []=Gs.getD j []:=by
 rw[Ab,Ab,List.getElem?_append_right (by omega)];congr 2;omega
theorem Ow.joined{e:Ty}{w w':Bh}{xs ys:List e.den}{g o C:Nat}{B:Array Bk}{T:Cf}{E Gs:List (List Nat)}{us:Nat->List Bk}{vs:Nat->List Bk}
  (L:xs.length+ys.length<=C) (M:C<=Bp) (O:w'.heap[g]?=R (.cells B T (0,0))) (P:o+C * e.sz<=B.size)
  (H:E.length=xs.length) (S:Gs.length=ys.length)
  (U:∀(i:Nat) (h:i<xs.length),Ow e w (us i) xs[i] (E.getD i [])) (V:∀(i:Nat) (h:i<ys.length),Ow e w (vs i) ys[i] (Gs.getD i []))
  (W:∀i,i<xs.length->Q25 B (o+i * e.sz) e.sz=us i) (X:∀i,i<ys.length->Q25 B (o+(xs.length+i) * e.sz) e.sz=vs i)
  (Y:∀b∈E.flatten,w'.heap[b]?=w.heap[b]?) (a:∀b∈Gs.flatten,w'.heap[b]?=w.heap[b]?):
  Ow (.slice e) w' [A (R ⟨g,o,N⟩) (xs.length+ys.length) C] (xs++ys) (g::(E++Gs).flatten):=by
 refine⟨_,rfl,.inr ⟨g,o,C,B,T,E++Gs,by rw[Bo],by rw[Bo];exact L,M,O,P,rfl,by rw[Bo,Bo,H,S],λi J=> ?_⟩⟩;rw[Bo]at J;show Ow e w' (Q25 B (o+i * e.sz) e.sz) _ _;by_cases F:i<xs.length
 ·rw[W i F,Ib F,Q8g (by omega)]
  exact(U i F).kept λb G=>Y b (Zu (by omega) G)
 ·obtain⟨j,rfl⟩:∃j,i=xs.length+j:=⟨i-xs.length,by omega⟩
  have K:j<ys.length:=by omega
  rw[X j K,Q7g H];have:(xs++ys)[xs.length+j]'(by rw[Bo];exact J)=ys[j]:=by rw[Hw (by omega)];congr 1;omega
  rw[this];exact(V j K).kept λb G=>a b (Zu (by omega) G)
theorem Q5k{l:List Bk}{a n k s:Nat}(h:k * s+s<=n):((l.drop a).take n|>.drop (k * s)).take s=(l.drop (a+k * s)).take s:=by
 rw[List.drop_take,List.take_take,List.drop_drop];congr 1;omega
theorem Qaq{C:Array Bk}{o m s:Nat}{B:List Bk}(F:B.length=m * s)(G:o+B.length<=C.size){j:Nat}(H:j<m):
  Q25 (Q1n C o B) (o+j * s) s=(B.drop (j * s)).take s:=by
 have h:=Q5y G;have J:j * s+s<=B.length:=by rw[F,<-Dq];exact Bd _ H
 have E:=Q5k (l:=(Q1n C o B).toList) (a:=o) (k:=j) (s:=s) J;have K:List.take B.length (List.drop o (Q1n C o B).toList)=B:=h;rw[K]at E;exact E.symm
theorem Qd6{E B C:List Bk}{s i:Nat}{n:Nat}(F:E.length=n * s)(h:i<n):Q25 (E.toArray++B.toArray++C.toArray) (0+i * s) s=(E.drop (i * s)).take s:=by
 have G:i * s+s<=E.length:=by rw[F,<-Dq];exact Bd _ h
 unfold Q25;simp only[Array.toList_append,Cd];rw[Dd,List.drop_append_of_le_length (by omega),List.take_append_of_le_length (by rw[Df];omega)]
theorem Qby{E B C:List Bk}{s j n m:Nat}(F:E.length=n * s)(G:B.length=m * s)(h:j<m):Q25 (E.toArray++B.toArray++C.toArray) (0+(n+j) * s) s=(B.drop (j * s)).take s:=by
 have H:j * s+s<=B.length:=by rw[G,<-Dq];exact Bd _ h
 unfold Q25;simp only[Array.toList_append,Cd];rw[Dd,Hn,<-F,List.drop_length_add_append,List.drop_append_of_le_length (by omega),List.take_append_of_le_length (by rw[Df];omega)]
theorem Q3u{P:Eq}(w:Bh){e:Ty}(J f B:Cf)(i:TypeInfo)(z:Bk)(n:Nat)(ht:P.underlying J=R (.slice B))(G:P.info? B=R i)(hz:i.zero=R z)
  (g:i.size=e.sz) (AB:i.bytes=n) (AO:z.cells.size=e.sz) (hb:n<=200) {v:Bk} {xs ys:List e.den} {F:List Nat} {Gs:List (List Nat)} (AC:Ow (.slice e) w [v] xs F) (hF:F.Nodup)
  (a:Cm) (m c:Nat) (hm:ys.length=m) (C:List Bk) (V:C.length=m * e.sz) (A4:∀j u,C[j]?=R u->w.cell? (a.add j)=R u) (h1:∀u∈C,u.oneCell'=Bn)
  (AD:Gs.length=m) (A5:∀(i:Nat) (h:i<ys.length),Ow e w ((C.drop (i * e.sz)).take e.sz) ys[i] (Gs.getD i [])) (hG:Gs.flatten.Nodup) (r:∀b∈Gs.flatten,b∉F) (AP:0<m) (AQ:xs.length+m<=1000000000):
  ∃(p:Option Cm) (H:Nat) (w':Bh) (W:List Nat),(Ev #[J,J] f #[v,A (R a) m c]).run P w=.ok (A p (xs.length+m) H) w'/\Ow (.slice e) w' [A p (xs.length+m) H] (xs++ys) W/\W.Nodup/\
   (∀b∈W,b∈F\/b∈Gs.flatten\/b=w.heap.size)/\Q1 (λb=>b∈F) w w':=by
 subst hm;have A6:∀b∈Gs.flatten,b<w.heap.size:=by intro b U;obtain⟨L,hL,AR⟩:=Ht.1 U;obtain⟨j,S,rfl⟩:=Av.1 hL;exact(A5 j (by omega)).lt b (by rw[Ab,Ad S];exact AR)
 have AE:(xs.length+ys.length) * n<=140737488355328:=by have:(xs.length+ys.length) * n<=1000000000 * 200:=Nat.mul_le_mul AQ hb;omega
 have t:xs.length+ys.length<=Bp:=by unfold Bp;omega
 have A7:=AC.lt
 have AF:∀(K:List Bk) (k:Option Cm) (E:Nat) (M:List (List Nat)),v=A k xs.length E->E<xs.length+ys.length->(∀b∈M.flatten,b∈F)->M.flatten.Nodup->K.length=xs.length * e.sz->(∀b,k=R b->∀j u,K[j]?=R u->w.cell? (b.add j)=R u)->(k=N->xs=[]/\E=0/\K=[])->
   M.length=xs.length->(∀(i:Nat) (h:i<xs.length),Ow e w ((K.drop (i * e.sz)).take e.sz) xs[i] (M.getD i []))->
   ∃(p:Option Cm) (H:Nat) (w':Bh) (W:List Nat),(Ev #[J,J] f #[v,A (R a) ys.length c]).run P w=.ok (A p (xs.length+ys.length) H) w'/\Ow (.slice e) w' [A p (xs.length+ys.length) H] (xs++ys) W/\W.Nodup/\
    (∀b∈W,b∈F\/b∈Gs.flatten\/b=w.heap.size)/\Q1 (λb=>b∈F) w w':=by
  intro K k E M Y AG x AS y AT AU A0 A1;have AV:=grownCap_ge w (xs.length+ys.length) E B;have AW:grownCap w (xs.length+ys.length) E B<=Bp:=grownCap_le_maxLen w (xs.length+ys.length) E B t
  have A2:(Ev #[J,J] f #[v,A (R a) ys.length c]).run P w=
    .ok (A (R ⟨w.heap.size,0,N⟩) (xs.length+ys.length) (grownCap w (xs.length+ys.length) E B))
     (w.drew.alloc (.cells (K.toArray++C.toArray++Ez z.cells (grownCap w (xs.length+ys.length) E B-(xs.length+ys.length))) B)):=by
   cases k with
   |none=>obtain⟨hx,AX,ho⟩:=AU rfl;subst hx;subst AX;subst ho;rw[Y];have:=run_append_nil (P:=P) w J f B i z ht G hz a ys.length c C (by rw[g];exact V) A4 AP (by unfold Bp at t;simp at t;omega) (by rw[AB];simp at AE;omega);simpa using this
   |some b0=>rw[Y];exact run_append_grow (P:=P) w J f B i z ht G hz b0 xs.length E K (by rw[g];exact y) (AT b0 rfl) a ys.length c C (by rw[g];exact V) A4 AG (by unfold Bp at t;omega) (by rw[AB];exact growslice_fits AG AE)
  refine⟨_,_,_,w.heap.size::(M++Gs).flatten,A2, ?_, ?_, ?_,((Q1.refl _ w).drew).alloc _⟩
  ·have AH:(Ez z.cells (grownCap w (xs.length+ys.length) E B-(xs.length+ys.length)))=(Ez z.cells (grownCap w (xs.length+ys.length) E B-(xs.length+ys.length))).toList.toArray:=by simp
   have A8:(K.toArray++C.toArray++Ez z.cells (grownCap w (xs.length+ys.length) E B-(xs.length+ys.length))).size=grownCap w (xs.length+ys.length) E B * e.sz:=by rw[Array.size_append,Array.size_append,List.size_toArray,List.size_toArray,y,V,size_zeroCells,AO,<-Hn,<-Hn];congr 1;omega
   have AY:(w.drew.alloc (.cells (K.toArray++C.toArray++Ez z.cells (grownCap w (xs.length+ys.length) E B-(xs.length+ys.length))) B)).heap[w.heap.size]?=R (.cells (K.toArray++C.toArray++Ez z.cells (grownCap w (xs.length+ys.length) E B-(xs.length+ys.length))) B (0,0)):=by exact Bg w.drew _
   refine Ow.joined (w:=w) (T:=B) AV AW AY (by rw[A8,Cd];exact Aj _) A0 AD A1 A5 (λi G=> ?_) (λj S=> ?_) (λb U=> ?_) (λb U=> ?_)
   ·rw[AH];exact Qd6 y G
   ·rw[AH];exact Qby y V S
   ·exact Az w.drew _ b (A7 b (x b U))
   ·exact Az w.drew _ b (A6 b U)
  ·rw[Ar,Gf,Ba,At0]
   refine⟨λh=> ?_,AS,hG,λp hp q hq d=>r q hq (d▸x p hp)⟩;rcases h with h|h
   ·have:=A7 _ (x _ h);omega
   ·have:=A6 _ h;omega
  ·intro b U
   rw[Aq,Gf,At0]at U;rcases U with h|h|h
   ·exact .inr (.inr h)
   ·exact .inl (x b h)
   ·exact .inr (.inl h)
 obtain⟨v',ev,h⟩:=AC;obtain rfl:v=v':=by simpa using ev
 rcases h with⟨hx,AI,a0,Y,hs⟩|⟨b,o,H,A9,T,M,Y,hl,hm,l,A8,AI,A0,A1⟩
 ·subst hx
  exact AF [] a0 0 [] (by rw[Y];rfl) (by simp;omega) (by simp) (by simp) (by simp) (by simp) (λ_=>⟨rfl,rfl,rfl⟩) rfl (λi G=>by simp at G)
 ·subst AI
  have A3:=Ar.1 hF;have B0:b<w.heap.size:=(Al.1 l).1;have AJ:o+xs.length * e.sz<=A9.size:=by have:xs.length * e.sz<=H * e.sz:=Bd _ hl;omega
  by_cases AA:xs.length+ys.length<=H
  ·have AK:o+xs.length * e.sz+C.length<=A9.size:=by
    have h2:(xs.length+ys.length) * e.sz<=H * e.sz:=Bd _ AA;rw[V];rw[Hn]at h2;omega
   have A2:=run_append_room_cells (P:=P) w J f B i ht G b o xs.length H a ys.length c C (by rw[g];exact V) A4 h1 AA
    (λj S=>by simp only[Er,l,g];simp;omega) (λj S=>by simp[World.frozen?,l])
   rw[g,Qag,<-Y]at A2;refine⟨_,_,_,b::(M++Gs).flatten,A2, ?_, ?_, ?_,Zq (X:=λc=>c∈b::M.flatten) Ae C _ _⟩
   ·have AL:Q1 (λc=>c=b) w (Qrf w b (o+xs.length * e.sz) C):=Zq (X:=λc=>c=b) rfl C _ _
    refine Ow.joined (w:=w) (T:=T) AA hm (V3 C _ _ _ l) (by rw[Q46];exact A8) A0 AD A1 A5 (λi G=> ?_) (λj S=> ?_) (λc O=> ?_) (λc O=> ?_)
    ·rw[Q3q AK (by
      left;have:i * e.sz+e.sz<=xs.length * e.sz:=by rw[<-Dq];exact Bd _ G
      omega)]
     rfl
    ·have:=Qaq (s:=e.sz) V AK S
     rw[Hn,<-Hb];exact this
    ·exact AL.block c (A7 c (Aa _ O)) (λd=>A3.1 (d▸O))
    ·exact AL.block c (A6 c O) (λd=>r c O (d▸Ae))
   ·rw[Ar,Gf,Ba,At0]
    refine⟨λh=> ?_,A3.2,hG,λp hp q hq d=>r q hq (d▸Aa _ hp)⟩;rcases h with h|h
    ·exact A3.1 h
    ·exact r b h Ae
   ·intro c O
    rw[Aq,Gf,At0]at O;rcases O with h|h|h
    ·exact .inl (h▸Ae)
    ·exact .inl (Aa _ h)
    ·exact .inr (.inl h)
  ·refine AF (Q25 A9 o (xs.length * e.sz)) (R ⟨b,o,N⟩) H M Y (by omega) (λc O=>Aa _ O) A3.2 (Q1w AJ) (λb0 AM j u S=> ?_) (by simp) A0 (λi G=> ?_)
   ·simp only[Bu]at AM
    subst AM;have hr:=Q58 l o (xs.length * e.sz) AJ;have AN:=(List.getElem?_eq_some_iff.1 S);have:=hr j AN.1;rw[AN.2]at this;have AZ:(⟨b,o,N⟩:Cm).add j=⟨b,o+j,N⟩:=by unfold Addr.add;split<;>simp_all
    rw[AZ];exact this
   ·unfold Q25
    rw[Q5k (by rw[<-Dq];exact Bd _ G)];exact A1 i G
abbrev Wd:=Int×Int
abbrev Qb:=Int×Int×Int×List Int×List Wd
abbrev Qqp:=List Qb×Int×Wd×List Wd
abbrev Qqt:=Wd×Wd
abbrev Qqb:=Int×Int×List Wd×List Qqt×List Int
abbrev J9:=Qqp×List Qqb×Int
abbrev Qr2:=List Qb
def aK(x:Qb):Int:=x.1
def aL(x:Qb):Int:=x.2.1
def aV(x:Qb):Int:=x.2.2.1
def aD(x:Qb):List Int:=x.2.2.2.1
def aW(x:Qb):List Wd:=x.2.2.2.2
def Qab:Qb:=(0,0,0,[],[])
def Qn(n:List Qb)(i:Nat):Qb:=n.getD i Qab
def Q7(n:List Qb)(i:Int):Qb:=Qn n i.toNat
def mC(m:Qqp):List Qb:=m.1
def mF(m:Qqp):Int:=m.2.1
def mR(m:Qqp):Wd:=m.2.2.1
def mX(m:Qqp):List Wd:=m.2.2.2
def Q1l(k:Int)(ports:Nat):Int:=if k==9 then(ports:Int)-1 else 0
def Zt(k v:Int)(d:List Int):Bool:=
 if k==6 then((d.length:Int)==0) && Qqz v (-2147483648) 2147483647
 else if k==7 then((d.length:Int)==0) && Qqz v 1 6
 else if k==8 then((d.length:Int)==1) && (Qqz v 1 6 && Qqz (d.getD 0 0) (-2147483648) 2147483647)
 else if k==9 then((d.length:Int)==0) && Qqz v 0 3
 else if k==12 then((d.length:Int)==0) && Q3r v
 else if k==10 then v==0 && (Qqz d.length 1 4 && d.all Q3r)
 else if k==11 then v==0 && (((d.length:Int)==2) && d.all Q3r)
 else v==0 && ((d.length:Int)==0)
def Yc(x:Qb):Bool:=
 decide (0<Q0b (aK x) (Q1l (aK x) (aW x).length)) && (((aW x).length:Int)==Q0b (aK x) (Q1l (aK x) (aW x).length)) && Zy (aK x) (aL x) && Zt (aK x) (aV x) (aD x)
def Jm(n:List Qb):Bool:=
 Qqz n.length 1 600 && (Bz n.length).all λ(i:Nat)=>Yc (Qn n i) && ((aK (Qn n i)==1)==((i:Int)==0))
def Q0l(n:List Qb)(p:Wd):Bool:=Qqz p.1 0 ((n.length:Int)-1) && Qqz p.2 0 (((aW (Q7 n p.1)).length:Int)-1)
def Qt(n:List Qb)(p:Wd):Wd:=(aW (Q7 n p.1)).getD p.2.toNat (0,0)
def Q0c(n:List Qb)(p:Wd):Bool:= !(Qt n p==p) && (Q0l n (Qt n p) && Qt n (Qt n p)==p)
def Q0i(n:List Qb)(i:Nat):List Wd:=(Bz (aW (Qn n i)).length).map λ(k:Nat)=>((i:Int),(k:Int))
def Qs(n:List Qb):List Wd:=(Bz n.length).flatMap (Q0i n)
def Ys(n:List Qb):Bool:=Jm n && (Qs n).all (Q0c n)
def Q0u(b:List Qr2):Bool:=decide ((b.length:Int)<=24) && b.all Ys
def Q03(p q:Wd):Bool:=decide (p.1<q.1)||(p.1==q.1 && decide (p.2<q.2))
def Yk(n:List Qb):List Qqt:=((Qs n).filter λp=>Q03 p (Qt n p)).map λp=>(p,Qt n p)
def Zv(n:List Qb):List Qqt:=(Yk n).filter λw=>decide (0<w.1.2) && decide (0<w.2.2)
def V6(n:List Qb):Int:=n.foldl (λl x=>max l (aL x)) 0
def Yd(n:List Qb):List Wd:=
 ((Bz n.length).filter λ(i:Nat)=>i !=0 && ((Qt n ((i:Int),0)).2==0 && decide ((i:Int)<(Qt n ((i:Int),0)).1))).map λ(i:Nat)=>((i:Int),(Qt n (i,0)).1)
def Q06(c:List Int):Bool:=((c.length:Int)==7) && c.all λn=>Qqz n 0 1000000000
def J5(k:Int):Bool:=Qqz k 2 12
def Z7(c:Qb):Qb:=(aK c,aL c,aV c,aD c,Cl ((aW c).length+1) (0,0))
def Yg(c:Qb):Bool:=
 if aK c==0 then aL c==0 && (((aD c).length:Int)==0 && ((aW c).length:Int)==0)
 else if aK c==13 then aL c==0 && (aV c==0 && (((aD c).length:Int)==0 && decide (((aW c).length:Int)<2)))
 else J5 (aK c) && Yc (Z7 c)
def Q2z(size:Int)(c:Qb):Bool:=if aK c==0 then Qqz (aV c) (-1) (size-1)else Bn
def Zh(cs:List Qb)(w:Wd):Bool:=
 Qqz w.2 0 ((cs.length:Int)-1) && ((w.1==1 && J5 (aK (Q7 cs w.2)))||(w.1==2 && aK (Q7 cs w.2)==13))
def Z6(m:Qqp):List Wd:=mR m::(mC m).flatMap aW
def Zx(cs:List Qb)(p:Wd):Bool:=
 Qqz p.2 1 ((cs.length:Int)-1) && (Qqz p.1 0 (p.2-1) && (J5 (aK (Q7 cs p.1)) && J5 (aK (Q7 cs p.2))))
def Jg(ws rs:List Wd)(i:Nat):Nat:=ws.countP (λw=>w.2==(i:Int))+(rs.countP (λp=>p.1==(i:Int))+rs.countP (λp=>p.2==(i:Int)))
def Q5d(c:Qb)(u:Nat):Bool:=(!(J5 (aK c))||u==1) && (!(aK c==13)||(u:Int)==2-((aW c).length:Int))
def Jr(cs:List Qb):Nat->Wd->Bool
 |0,_=>Bm
 |n+1,w=>if w.1 !=2||(aW (Q7 cs w.2)).length==0 then Bn else Jr cs n ((aW (Q7 cs w.2)).getD 0 (0,0))
def Q5x(cs:List Qb)(i:Nat):Bool:= !(aK (Qn cs i)==13)||Jr cs (cs.length+1) (2,i)
def Z3(cs:List Qb):Nat:=cs.countP λc=>aK c==0
def Zg(cs:List Qb):Nat->Int->Bool
 |0,p=>p== -1
 |n+1,p=>(Qqz p 0 ((cs.length:Int)-1) && aK (Q7 cs p)==0) && Zg cs n (aV (Q7 cs p))
def Q0g(m:Qqp)(held rs:List Wd):Bool:=
 Qqz (mC m).length 1 1500 && (decide (rs.length<=(mC m).length) && ((mC m).all Yg && ((Z6 m++held).all (Zh (mC m)) && (rs.all (Zx (mC m)) &&
  ((Bz (mC m).length).all (λi=>Q5d (Qn (mC m) i) (Jg (Z6 m++held) rs i) && Q5x (mC m) i) && Zg (mC m) (Z3 (mC m)) (mF m))))))
def wP(w:Qqb):Int:=w.1
def wV(w:Qqb):Int:=w.2.1
def wX(w:Qqb):List Wd:=w.2.2.1
def wL(w:Qqb):List Qqt:=w.2.2.2.1
def wC(w:Qqb):List Int:=w.2.2.2.2
def pM(p:J9):Qqp:=p.1
def pW(p:J9):List Qqb:=p.2.1
def pA(p:J9):Int:=p.2.2
def Qou:Qqb:=(0,0,[],[],[])
def Q5(p:J9)(k:Nat):Qqb:=(pW p).getD k Qou
def Vi(ws:List Qqb):List Wd:=ws.flatMap λw=>(wL w).flatMap λl=> [l.1,l.2]
def Qz(ws:List Qqb):List Wd:=ws.flatMap wX
def Y3(w:Qqb):Bool:=wP w==1||wP w==3
def Zw(n:Nat)(w:Qqb):Bool:=
 (Qqz (wP w) 1 4 && (Qqz (wV w) 0 ((n:Int)-1) && (Q06 (wC w) && decide ((wL w).length<=1500)))) && (wP w==1||((wX w).length==0 && (wL w).length==0))
def J2(p:J9):Bool:=
 (Qqz (pW p).length 1 4 && (mX (pM p)).length==0) && ((pW p).all (Zw (pW p).length) && ((((pW p).countP Y3:Nat):Int)==pA p && Q0g (pM p) (Vi (pW p)) (Qz (pW p))))
def Q1b(p:J9):List Int:=((Bz (pW p).length).filter λ(k:Nat)=>wP (Q5 p k) !=4).map λ(k:Nat)=>(k:Int)
theorem Q8f{l r:List Nat}(J:l.Nodup)(C:∀a,a∈l->a∈r)(E:r.length<=l.length):∀a,a∈r->a∈l:=by
 induction l generalizing r with
 |nil=>intro a B;have:r=[]:=List.eq_nil_of_length_eq_zero (by simpa using E);rw[this]at B;exact B
 |cons b l ih=>
  intro a B;have K:b∈r:=C b Ae;have F:=Ar.1 J;have L:(r.erase b).length=r.length-1:=List.length_erase_of_mem K;have:=ih (r:=r.erase b) F.2 (λc G=>(List.mem_erase_of_ne (λe=>F.1 (by rw[<-e];exact G))).2 (C c (Aa _ G))) (by simp only[Bs]at E;omega);by_cases H:a=b
  ·rw[H];exact Ae
  ·exact Aa _ (this a ((List.mem_erase_of_ne H).2 B))
theorem Qan{α:Type}(cs:List α)(d:α):(Bz cs.length).map (λi=>cs.getD i d)=cs:=by
 apply List.ext_getElem
 ·simp
 ·intro i C B
  simp[List.getD_eq_getElem?_getD,B]
theorem Qdw{α:Type}(cs:List α)(d:α)(p:α->Bool):cs.countP p=((Bz cs.length).filter λi=>p (cs.getD i d)).length:=by
 have h:=congrArg (List.countP p) (Qan cs d);rw[List.countP_map]at h;rw[<-h,List.countP_eq_length_filter];rfl
def V4(cs:List Qb):Nat->Int->List Nat
 |0,_=> []
 |n+1,p=>p.toNat::V4 cs n (aV (Q7 cs p))
theorem Q28(cs:List Qb):∀(n:Nat) (p:Int),(V4 cs n p).length=n
 |0,_=>rfl
 |n+1,p=>by rw[V4,Bs,Q28 cs n]
theorem Jy{cs:List Qb}{n:Nat}{p:Int}(h:Zg cs (n+1) p=Bn):0<=p/\p.toNat<cs.length/\aK (Q7 cs p)=0/\Zg cs n (aV (Q7 cs p))=Bn:=by
 simp only[Zg,Bl,Ql,beq_iff_eq]at h;obtain⟨⟨⟨B,F⟩,C⟩,E⟩:=h;exact⟨B,by omega,C,E⟩
theorem Q39{cs:List Qb}{p:Int}(h:Zg cs 0 p=Bn):p= -1:=by
 simpa[Zg]using h
theorem Q9m{cs:List Qb}:∀ {n m:Nat} {p:Int},Zg cs n p=Bn->Zg cs m p=Bn->n=m
 |0,0,_,_,_=>rfl
 |0,m+1,p,h,k=>by have:=Q39 h;have:=(Jy k).1;omega
 |n+1,0,p,h,k=>by have:=Q39 k;have:=(Jy h).1;omega
 |n+1,m+1,p,h,k=>by rw[Q9m (Jy h).2.2.2 (Jy k).2.2.2]
theorem Q6s{cs:List Qb}:∀ {n:Nat} {p:Int} {q:Nat},Zg cs n p=Bn->q∈V4 cs n p->∃m,m<n/\Zg cs (m+1) (q:Int)=Bn
 |0,_,_,_,hq=>by simp[V4]at hq
 |n+1,p,q,h,hq=>by
  have B:=Jy h;rw[V4]at hq;rcases Aq.1 hq with rfl|hq
  ·exact⟨n,by omega,by rw[show((p.toNat:Nat):Int)=p from by omega];exact h⟩
  ·obtain⟨m,E,C⟩:=Q6s B.2.2.2 hq
   exact⟨m,by omega,C⟩
theorem Q68{cs:List Qb}:∀ {n:Nat} {p:Int},Zg cs n p=Bn->(V4 cs n p).Nodup
 |0,_,_=>by simp[V4]
 |n+1,p,h=>by have B:=Jy h;rw[V4,Ar];refine⟨λE=> ?_,Q68 B.2.2.2⟩;obtain⟨m,F,C⟩:=Q6s B.2.2.2 E;rw[show((p.toNat:Nat):Int)=p from by omega]at C;have:=Q9m h C;omega
theorem Qdj{cs:List Qb}{n:Nat}{p:Int}{q:Nat}(h:Zg cs n p=Bn)(B:q∈V4 cs n p):q<cs.length/\aK (Qn cs q)=0:=by
 obtain⟨m,_,C⟩:=Q6s h B;have:=Jy C;simp only[By,Q7]at this;exact⟨this.2.1,this.2.2.1⟩
theorem Qla{cs:List Qb}{p:Int}(h:Zg cs (Z3 cs) p=Bn)(i:Nat)(B:i<cs.length)(C:aK (Qn cs i)=0):i∈V4 cs (Z3 cs) p:=by
 have E:Z3 cs=((Bz cs.length).filter λi=>aK (Qn cs i)==0).length:=Qdw cs Qab (λc=>aK c==0);refine Q8f (r:=(Bz cs.length).filter λi=>aK (Qn cs i)==0) (Q68 h) (λa F=> ?_) (by rw[Q28,E];exact Aj _) i ?_
 ·obtain⟨G,H⟩:=Qdj h F
  simp[Dn,G,H]
 ·simp[Dn,B,C]
theorem Qx{cs:List Qb}{i:Nat}(h:i<cs.length):Qn cs i=cs[i]:=by simp[Qn,List.getD_eq_getElem?_getD,h]
theorem Q8e{cs:List Qb}{p:Int}(h:Zg cs (Z3 cs) p=Bn):cs.all (Q2z cs.length)=Bn:=by
 rw[Bf];intro c E;obtain⟨i,C,rfl⟩:=Av.1 E;unfold Q2z;split
 ·rename_i F
  have G:aK (Qn cs i)=0:=by rw[Qx C];simpa using F
  have H:=Qla h i C G;obtain⟨m,_,J⟩:=Q6s h H;have B:=(Jy J).2.2.2;simp only[Q7,By]at B;rw[Qx C]at B;rw[Ql];cases m with
  |zero=>have:=Q39 B;omega
  |succ m=>have:=Jy B;omega
 ·rfl
def Jw(cs:List Qb):Int->List Nat->Prop
 |p,[]=>p= -1
 |p,a::l=>p=(a:Int)/\a<cs.length/\aK (Qn cs a)=0/\Jw cs (aV (Qn cs a)) l
theorem Jw.of_chain{cs:List Qb}:∀ {n:Nat} {p:Int},Zg cs n p=Bn->Jw cs p (V4 cs n p)
 |0,_,h=>Q39 h
 |n+1,p,h=>by have B:=Jy h;exact⟨by omega,B.2.1,B.2.2.1,Jw.of_chain B.2.2.2⟩
theorem Q30{cs:List Qb}{i j:Nat}{c:Qb}:Qn (cs.set i c) j=if i=j/\j<cs.length then c else Qn cs j:=by
 simp only[Qn,List.getD_eq_getElem?_getD,List.getElem?_set];split
 ·rename_i h;subst h
  by_cases B:i<cs.length
  ·simp[B]
  ·simp[B]
 ·rename_i h;simp[h]
theorem Jw.set{cs:List Qb}{i:Nat}{c:Qb}:∀ {l:List Nat} {p:Int},Jw cs p l->i∉l->Jw (cs.set i c) p l
 | [],_,h,_=>h
 |a::l,p,⟨h1,h2,h3,h4⟩,hn=>by
  have B:¬i=a:=λe=>hn (by rw[e];exact Ae);refine⟨h1,by rw[Br];exact h2, ?_, ?_⟩
  ·rw[Q30,if_neg (λe=>B e.1)];exact h3
  ·rw[Q30,if_neg (λe=>B e.1)]
   exact Jw.set h4 λC=>hn (Aa _ C)
theorem Jw.release{cs:List Qb}{i:Nat}{l:List Nat}{p:Int}(h:Jw cs p l)(C:i∉l)(B:i<cs.length):Jw (cs.set i (0,0,p,[],[])) i (i::l):=by
 refine⟨rfl,by rw[Br];exact B, ?_, ?_⟩
 ·rw[Q30,if_pos ⟨rfl,B⟩];rfl
 ·rw[Q30,if_pos ⟨rfl,B⟩];exact h.set C
theorem Jw.chain{cs:List Qb}:∀ {l:List Nat} {p:Int},Jw cs p l->Zg cs l.length p=Bn
 | [],_,h=>by simp only[Jw]at h;simp[Zg,h]
 |a::l,p,⟨h1,h2,h3,h4⟩=>by subst h1;simp only[Bs,Zg,Q7,By,h3,Bl,Ql,beq_self_eq_true,and_true];exact⟨by omega,h4.chain⟩
def Qr4(w:Bh)(b:Nat):Prop:=∃cur T,w.heap[b]?=R (.cells cur T (0,0))
theorem Qr4.lt{w:Bh}{b:Nat}(h:Qr4 w b):b<w.heap.size:=let ⟨_,_,h⟩:=h;(Al.1 h).1
theorem Qr4.free{w:Bh}{b:Nat}(h:Qr4 w b)(q:Nat):w.frozen? ⟨b,q,N⟩=Bm:=by obtain⟨_,_,h⟩:=h;simp[World.frozen?,h]
theorem Qr4.frame{w w':Bh}{b:Nat}{X:Nat->Prop}(h:Qr4 w b)(k:Q1 X w w')(hX:¬X b):Qr4 w' b:=by
 have B:=h.lt;obtain⟨c,T,h⟩:=h;exact⟨c,T,by rw[k.block b B hX];exact h⟩
theorem Qr4.keep{w w':Bh}{b B n:Nat}(h:Qr4 w b)(k:Q9 b B n w w'):Qr4 w' b:=by
 obtain⟨c,T,h⟩:=h;obtain⟨C,E,_⟩:=k c T h;exact⟨C,T,E⟩
theorem Qr4.alloc(w:Bh)(c:Array Bk)(T:Cf):Qr4 (w.alloc (.cells c T)) w.heap.size:=⟨c,T,Bg w _⟩
theorem Qqw.keep{w w':Bh}{b C n q:Nat}{cs:List Bk}(h:Qqw w b q cs)(B:Qr4 w b)(k:Q9 b C n w w')(H:q+cs.length<=C\/C+n<=q):Qqw w' b q cs:=by
 obtain⟨c,T,B⟩:=B;obtain⟨J,E,K,F⟩:=k c T B;intro j G;have:=h j G;simp only[Er,B,E]at this⊢;rw[F (q+j) (by omega)];exact this
theorem Qqw.frame{w w':Bh}{b q:Nat}{cs:List Bk}{X:Nat->Prop}(h:Qqw w b q cs)(B:b<w.heap.size)(k:Q1 X w w')(hX:¬X b):Qqw w' b q cs:=
 λj C=>by rw[k.cell B hX];exact h j C
theorem Q9.trans{b B n:Nat}{a w w':Bh}(h:Q9 b B n a w)(k:Q9 b B n w w'):Q9 b B n a w':=by
 intro E T F;obtain⟨G,H,J,K⟩:=h E T F;obtain⟨L,M,O,P⟩:=k G T H;exact⟨L,M,by rw[O,J],λj C=>by rw[P j C,K j C]⟩
theorem Q9.wide{b B n C E:Nat}{a w:Bh}(h:Q9 b B n a w)(M:C<=B)(O:B+n<=C+E):Q9 b C E a w:=by
 intro F T G;obtain⟨H,J,K,L⟩:=h F T G;exact⟨H,J,K,λj P=>L j (by omega)⟩
theorem Qqw.app{w:Bh}{b o:Nat}{v1 B:List Bk}(h:Qqw w b o (v1++B)):Qqw w b o v1/\Qqw w b (o+v1.length) B:=by
 refine⟨λj C=> ?_,λj C=> ?_⟩
 ·have:=h j (by rw[Bo];omega)
  rw[Ib C]at this;exact this
 ·have:=h (v1.length+j) (by rw[Bo];omega)
  rw[Hw (by omega)]at this;simpa[Hb]using this
theorem Qqw.join{w:Bh}{b o:Nat}{v1 B:List Bk}(E:Qqw w b o v1)(F:Qqw w b (o+v1.length) B):Qqw w b o (v1++B):=by
 intro j G;by_cases C:j<v1.length
 ·rw[Ib C];exact E j C
 ·rw[Hw (by omega)]
  have:=F (j-v1.length) (by rw[Bo]at G;omega);rw[show o+v1.length+(j-v1.length)=o+j from by omega]at this;exact this
theorem Ow.agent{w:Bh}{us:List Bk}{x:Qb}{G:List Nat}(h:Ow Q3 w us x G):
  ∃(B:Option Cm) (C:Nat) (E:Option Cm) (F:Nat) (H J:List Nat),us=[I Z (aK x),I Z (aL x),I Z (aV x),A B (aD x).length C,A E (aW x).length F]/\G=H++J/\
   Ow (.slice .int) w [A B (aD x).length C] (aD x) H/\Ow (.slice Q4) w [A E (aW x).length F] (aW x) J/\Qqm (aK x)/\Qqm (aL x)/\Qqm (aV x):=by
 obtain⟨_,_,_,_,rfl,rfl,⟨rfl,M,rfl⟩,_,_,_,_,rfl,rfl,⟨rfl,O,rfl⟩,_,_,_,_,rfl,rfl,⟨rfl,P,rfl⟩,_,_,H,J,rfl,rfl,K,L⟩:=h;obtain⟨B,C,rfl,K⟩:=Jx K;obtain⟨E,F,rfl,L⟩:=Jx L;exact⟨B,C,E,F,H,J,rfl,by simp,K,L,M,O,P⟩
theorem Ow.mkAgent{w:Bh}{k l v:Int}{d:List Int}{ws:List Wd}{E F:Option Cm}{G H J K:Nat}{B C:List Nat}(L:Qqm k)(M:Qqm l)(O:Qqm v)
  (P:Ow (.slice .int) w [A E G H] d B) (S:Ow (.slice Q4) w [A F J K] ws C):
  Ow Q3 w [I Z k,I Z l,I Z v,A E G H,A F J K] (k,l,v,d,ws) (B++C):=
 ⟨[_],_,[],B++C,rfl,rfl,⟨rfl,L,rfl⟩,[_],_,[],B++C,rfl,rfl,⟨rfl,M,rfl⟩,[_],_,[],B++C,rfl,rfl,⟨rfl,O,rfl⟩,[_],[_],B,C,rfl,rfl,P,S⟩
theorem Ow.nil{e:Ty}(w:Bh):Ow (.slice e) w [A N 0 0] [] []:=⟨_,rfl,.inl ⟨rfl,rfl,N,rfl,by simp⟩⟩
theorem Ow.freeCell{w:Bh}{v:Int}(B:Qqm v):Ow Q3 w [I Z 0,I Z 0,I Z v,A N 0 0,A N 0 0] (0,0,v,[],[]) []:=
 Ow.mkAgent (by unfold Qqm;omega) (by unfold Qqm;omega) B (Ow.nil w) (Ow.nil w)
def J1(w:Bh)(cb o cap:Nat)(cs:List Qb)(Fs:List (List Nat)):Prop:=
 ∃cur T,w.heap[cb]?=R (.cells cur T (0,0))/\cs.length<=cap/\cap<=Bp/\o+cap * 5<=cur.size/\Fs.length=cs.length/\(cb::Fs.flatten).Nodup/\
  ∀(i:Nat) (h:i<cs.length),Ow Q3 w (Q25 cur (o+i * 5) 5) cs[i] (Fs.getD i [])
section
variable {w:Bh} {cb o cap:Nat} {cs:List Qb} {Fs:List (List Nat)}
theorem J1.ow(h:J1 w cb o cap cs Fs):Ow (.slice Q3) w [A (R ⟨cb,o,N⟩) cs.length cap] cs (cb::Fs.flatten):=by
 obtain⟨B,T,C,E,F,G,H,K,J⟩:=h;exact⟨_,rfl,.inr ⟨cb,o,cap,B,T,Fs,rfl,E,F,C,G,rfl,H,J⟩⟩
theorem J1.rd(h:J1 w cb o cap cs Fs):Rd (.slice Q3) w [A (R ⟨cb,o,N⟩) cs.length cap] cs:=h.ow.rd
theorem J1.of_ow{v:Bk}{F:List Nat}(h:Ow (.slice Q3) w [v] cs F)(C:F.Nodup)(E:cs≠ []):∃cb o cap Fs,v=A (R ⟨cb,o,N⟩) cs.length cap/\F=cb::Fs.flatten/\J1 w cb o cap cs Fs:=by
 obtain⟨G,H,h⟩:=h;obtain rfl:v=G:=by simpa using H
 rcases h with⟨J,_⟩|⟨b,o,cap,K,T,Fs,L,M,O,P,S,B,U,V⟩
 ·exact absurd J E
 ·exact⟨b,o,cap,Fs,L,B,K,T,P,M,O,S,U,B▸C,V⟩
theorem J1.blk(h:J1 w cb o cap cs Fs):Qr4 w cb:=let ⟨cur,T,h1,_⟩:=h;⟨cur,T,h1⟩
theorem J1.nodup(h:J1 w cb o cap cs Fs):(cb::Fs.flatten).Nodup:=let ⟨_,_,_,_,_,_,_,h6,_⟩:=h;h6
theorem J1.len(h:J1 w cb o cap cs Fs):Fs.length=cs.length:=let ⟨_,_,_,_,_,_,h5,_⟩:=h;h5
theorem J1.lt(h:J1 w cb o cap cs Fs):∀b∈cb::Fs.flatten,b<w.heap.size:=h.ow.lt
theorem J1.bound(h:J1 w cb o cap cs Fs):cs.length<=cap/\cap<=Bp:=let ⟨_,_,_,h1,h2,_⟩:=h;⟨h1,h2⟩
theorem J1.cell(h:J1 w cb o cap cs Fs)(i:Nat)(E:i<cs.length):∃us,us.length=5/\Qqw w cb (o+i * 5) us/\Ow Q3 w us cs[i] (Fs.getD i []):=by
 obtain⟨B,T,F,H,J,K,L,M,G⟩:=h;have C:o+i * 5+5<=B.size:=by omega
 exact⟨Q25 B (o+i * 5) 5,Q1w C,Q58 F _ _ C,G i E⟩
theorem J1.frame{w':Bh}{X:Nat->Prop}(h:J1 w cb o cap cs Fs)(k:Q1 X w w')(hX:∀b∈cb::Fs.flatten,¬X b):J1 w' cb o cap cs Fs:=by
 have C:=h.lt;obtain⟨E,T,F,G,H,J,K,L,M⟩:=h;have B:∀b∈cb::Fs.flatten,w'.heap[b]?=w.heap[b]?:=λb B=>k.block b (C b B) (hX b B);exact⟨E,T,by rw[B cb Ae];exact F,G,H,J,K,L,λi O=>(M i O).kept λb P=>B b (Aa _ (Zu (by omega) P))⟩
end
theorem Q8u{Fs:List (List Nat)}{i j:Nat}{G:List Nat}(h:j<Fs.length):(Fs.set i G).getD j []=if i=j then G else Fs.getD j []:=by
 rw[Ab,Ab,List.getElem?_set];split
 ·rename_i e;subst e;simp[h]
 ·rfl
theorem Yv{Fs:List (List Nat)}{i b:Nat}{G:List Nat}(h:b∈(Fs.set i G).flatten):b∈G\/∃j,j<Fs.length/\j≠i/\b∈Fs.getD j []:=by
 obtain⟨L,E,B⟩:=Ht.1 h;obtain⟨j,C,rfl⟩:=Av.1 E;rw[Br]at C;by_cases e:i=j
 ·subst e
  left;simpa using B
 ·right
  refine⟨j,C,λh=>e h.symm, ?_⟩;rw[Dy e]at B;rw[Ab,Ad C];exact B
theorem Q1y{Fs:List (List Nat)}{i:Nat}{G:List Nat}(h:Fs.flatten.Nodup)(T:G.Nodup)(J:∀b∈G,∀j,j<Fs.length->j≠i->b∉Fs.getD j []):(Fs.set i G).flatten.Nodup:=by
 unfold List.Nodup at h⊢;rw[Dv]at h⊢;constructor
 ·intro L U
  obtain⟨j,K,rfl⟩:=Av.1 U;rw[Br]at K;by_cases e:i=j
  ·subst e;rw[List.getElem_set_self];exact T
  ·rw[Dy e];exact h.1 _ (As K)
 ·rw[Do]at h⊢
  intro p q B C V;rw[Br]at B C;have M:∀k (O:k<Fs.length),Fs.getD k []=Fs[k]:=λk O=>by rw[Ab,Ad O];rfl
  by_cases P:i=p
  ·subst P
   rw[List.getElem_set_self,Dy (by omega)];intro a E b F H;subst H;exact J a E q C (by omega) (by rw[M q C];exact F)
  ·by_cases S:i=q
   ·subst S
    rw[List.getElem_set_self,Dy (by omega)];intro a E b F H;subst H;exact J a F p B (by omega) (by rw[M p B];exact E)
   ·rw[Dy P,Dy S]
    exact h.2 p q B C V
theorem J1.turn{w w2:Bh}{cb o cap:Nat}{cs:List Qb}{Fs:List (List Nat)}(h:J1 w cb o cap cs Fs){i:Nat}(f:i<cs.length){us':List Bk}{y:Qb}{G:List Nat}
  (g:Q1 (λc=>c=cb\/c∈Fs.getD i []) w w2) (l:Q9 cb (o+i * 5) 5 w w2) (m:Qqw w2 cb (o+i * 5) us') (W:Ow Q3 w2 us' y G) (n:G.Nodup)
  (J:∀b∈G,b∈Fs.getD i []\/b∉cb::Fs.flatten):J1 w2 cb o cap (cs.set i y) (Fs.set i G):=by
 have p:=h.lt;obtain⟨P,T,F,H,q,r,s,t,u⟩:=h;have K:=Ar.1 t;obtain⟨S,X,v,x⟩:=l P T F;have z:=W.length;have A1:us'.length=5:=z;have A2:o+i * 5+5<=P.size:=by omega
 have A0:=Dv.1 K.2;have Y:∀j,j<cs.length->j≠i->∀c∈Fs.getD j [],c∉Fs.getD i []:=by
  intro j B U c C a;have F:i<Fs.length:=by omega
  have H:j<Fs.length:=by omega
  have J:=Do.1 A0.2;rcases En U with h|h
  ·exact J j i H F h c (by rwa [Ab,Ad H]at C) c (by rwa [Ab,Ad F]at a) rfl
  ·exact J i j F H h c (by rwa [Ab,Ad F]at a) c (by rwa [Ab,Ad H]at C) rfl
 have L:∀j,j<cs.length->∀c∈Fs.getD j [],c∈Fs.flatten:=λj B c C=>Zu (by omega) C;refine⟨S,T,X,by rw[Br];exact H,q,by rw[v];exact r,by rw[Br,Br];exact s, ?_,λj B=> ?_⟩
 ·rw[Ar]
  refine⟨λM=> ?_,Q1y K.2 n λb hb j B U d=> ?_⟩
  ·rcases Yv M with M|⟨j,B,_,M⟩
   ·rcases J cb M with h|h
    ·exact K.1 (L i f cb h)
    ·exact h Ae
   ·exact K.1 (L j (by omega) cb M)
  ·rcases J b hb with h|h
   ·exact Y j (by omega) U b d h
   ·exact h (Aa _ (L j (by omega) b d))
 ·rw[Br]at B
  rw[Q8u (by omega)];by_cases O:i=j
  ·subst O
   rw[if_pos rfl];have V:Q25 S (o+i * 5) 5=us':=by
    apply Du;intro k;unfold Q25;rw[Cu];by_cases E:k<5
    ·rw[if_pos E,Ct,Array.getElem?_toList]
     have:=m k (by omega);simp only[Er,X]at this;simp only[Option.isSome_none,Cv,if_false]at this;rw[this,Ad (by omega)]
    ·rw[if_neg E,El (by omega)]
   rw[V];simpa using W
  ·rw[if_neg O,Dy O]
   have V:Q25 S (o+j * 5) 5=Q25 P (o+j * 5) 5:=by
    apply Du;intro k;unfold Q25;rw[Cu,Cu];by_cases E:k<5
    ·rw[if_pos E,if_pos E,Ct,Ct,Array.getElem?_toList,Array.getElem?_toList]
     exact x _ (by omega)
    ·rw[if_neg E,if_neg E]
   rw[V];refine(u j B).kept λc C=>g.block c (p c (Aa _ (L j B c C))) ?_;rintro(e|e)
   ·exact K.1 (e▸L j B c C)
   ·exact Y j B (λe'=>O e'.symm) c C e
structure MS where
 cb:Nat
 o:Nat
 cap:Nat
 Fs:List (List Nat)
 Fx:List Nat
def MS.all(S:MS):List Nat:=S.cb::(S.Fs.flatten++S.Fx)
def MS.put(S:MS)(i:Int)(G:List Nat):MS:= {S with Fs:=S.Fs.set i.toNat G}
def Qf0(m:Qqp)(i:Int)(c:Qb):Qqp:=((mC m).set i.toNat c,mF m,mR m,mX m)
def Qj(m:Qqp)(c:Qb):Qqp:=((mC m).set (mF m).toNat c,aV (Q7 (mC m) (mF m)),mR m,mX m)
def Qg(m:Qqp)(i:Int):Qqp:=((mC m).set i.toNat (0,0,mF m,[],[]),i,mR m,mX m)
def Yu(m:Qqp)(a b:Int):Qqp:=(mC m,mF m,mR m,mX m++ [(min a b,max a b)])
def Qa(m:Qqp)(i:Int)(ws:List Wd):Qqp:=Qf0 m i (aK (Q7 (mC m) i),aL (Q7 (mC m) i),aV (Q7 (mC m) i),aD (Q7 (mC m) i),ws)
def Z8(w:Bh)(pb po:Nat)(m:Qqp)(S:MS):Prop:=
 ∃(px:Option Cm) (cx:Nat),Qr4 w pb/\Qqw w pb po [A (R ⟨S.cb,S.o,N⟩) (mC m).length S.cap,I Z (mF m),I Z (mR m).1,I Z (mR m).2,A px (mX m).length cx]/\
  Qqm (mF m)/\Qqm (mR m).1/\Qqm (mR m).2/\J1 w S.cb S.o S.cap (mC m) S.Fs/\Ow (.slice Q4) w [A px (mX m).length cx] (mX m) S.Fx/\(pb::S.all).Nodup
section
variable {w:Bh} {pb po:Nat} {m:Qqp} {S:MS}
theorem Z8.at(h:Z8 w pb po m S):∃cs,cs.length=Qo.sz/\Qqw w pb po cs/\Rd Qo w cs m:=by
 obtain⟨px,cx,J,B,C,E,F,G,H,K⟩:=h;exact⟨_,rfl,B,[_],_,rfl,G.rd,[_],_,rfl,⟨rfl,C⟩,[_,_],_,rfl,⟨[_],[_],rfl,⟨rfl,E⟩,⟨rfl,F⟩⟩,H.rd⟩
theorem Z8.blk(h:Z8 w pb po m S):Qr4 w pb:=let ⟨_,_,h,_⟩:=h;h
theorem Z8.cells(h:Z8 w pb po m S):J1 w S.cb S.o S.cap (mC m) S.Fs:=let ⟨_,_,_,_,_,_,_,h,_⟩:=h;h
theorem Z8.nodup(h:Z8 w pb po m S):(pb::S.all).Nodup:=let ⟨_,_,_,_,_,_,_,_,_,h⟩:=h;h
theorem Z8.lt(h:Z8 w pb po m S):∀b∈pb::S.all,b<w.heap.size:=by
 obtain⟨px,cx,E,G,H,J,K,C,F,L⟩:=h;intro b B;unfold MS.all at B;rw[Aq,Aq,At0]at B;rcases B with rfl|rfl|B|B
 ·exact E.lt
 ·exact C.blk.lt
 ·exact C.lt b (Aa _ B)
 ·exact F.lt b B
theorem Z8.frame{w':Bh}{X:Nat->Prop}(h:Z8 w pb po m S)(k:Q1 X w w')(hX:∀b∈pb::S.all,¬X b):Z8 w' pb po m S:=by
 have O:=h.lt;obtain⟨px,cx,C,G,H,J,K,L,E,M⟩:=h;have F:=hX pb Ae;refine⟨px,cx,C.frame k F,G.frame C.lt k F,H,J,K,L.frame k λb B=>hX b ?_,E.frame k λb B=>⟨E.lt b B,hX b ?_⟩,M⟩
 ·rcases Aq.1 B with rfl|B
  ·exact Aa _ Ae
  ·exact Aa _ (Aa _ (At0.2 (.inl B)))
 ·exact Aa _ (Aa _ (At0.2 (.inr B)))
theorem Z8.kept{w':Bh}(h:Z8 w pb po m S)(k:Below w.heap.size w w'):Z8 w' pb po m S:=h.frame (X:=λ_=>False) (Ay k) (λ_ _ h=>h)
end
theorem Zf{S:MS}{i:Int}{G:List Nat}{b:Nat}(h:b∈(S.put i G).all):b∈G\/b∈S.all:=by
 unfold MS.all MS.put at *
 rw[Aq,At0]at h;rw[Aq,At0];rcases h with h|h|h
 ·exact .inr (.inl h)
 ·rcases Yv h with h|⟨j,hj,_,h⟩
  ·exact .inl h
  ·exact .inr (.inr (.inl (Zu hj h)))
 ·exact .inr (.inr (.inr h))
theorem Qeo{p:Nat}{S:MS}{i:Int}{G:List Nat}(h:(p::S.all).Nodup)(W:G.Nodup)(M:∀b∈G,b∈S.Fs.getD i.toNat []\/b∉p::S.all)(H:i.toNat<S.Fs.length):(p::(S.put i G).all).Nodup:=by
 have J:=Ar.1 h;have O:S.cb∉S.Fs.flatten++S.Fx/\(S.Fs.flatten++S.Fx).Nodup:=Ar.1 J.2;have K:=Qqn O.2;have X:=Dv.1 K.1;have Y:∀j,j<S.Fs.length->j≠i.toNat->∀c∈S.Fs.getD j [],c∉S.Fs.getD i.toNat []:=by
  intro j C T c E V;have M:=Do.1 X.2;rcases En T with h|h
  ·exact M j _ C H h c (by rwa [Ab,Ad C]at E) c (by rwa [Ab,Ad H]at V) rfl
  ·exact M _ j H C h c (by rwa [Ab,Ad H]at V) c (by rwa [Ab,Ad C]at E) rfl
 have P:∀b∈G,b≠p/\b≠S.cb/\b∉S.Fx/\∀j,j<S.Fs.length->j≠i.toNat->b∉S.Fs.getD j []:=by
  intro b F;rcases M b F with h|h
  ·have B:=Zu H h
   refine⟨λe=>J.1 (e▸Aa _ (At0.2 (.inl B))),λe=>O.1 (e▸At0.2 (.inl B)),λU=>K.2.2 b B U,λj C T E=>Y j C T b E h⟩
  ·refine⟨λe=>h (e▸Ae),λe=>h (e▸Aa _ Ae),λU=>h (Aa _ (Aa _ (At0.2 (.inr U)))),λj C _ E=>h (Aa _ (Aa _ (At0.2 (.inl (Zu C E)))))⟩
 unfold MS.all MS.put;rw[Ar,Ar,Ba];refine⟨λB=> ?_,λB=> ?_,Q1y K.1 W λb F=>(P b F).2.2.2,K.2.1,λa L b F e=> ?_⟩
 ·rw[Aq,At0]at B
  rcases B with B|B|B
  ·exact J.1 (B▸Ae)
  ·rcases Yv B with B|⟨j,C,_,B⟩
   ·exact(P _ B).1 rfl
   ·exact J.1 (Aa _ (At0.2 (.inl (Zu C B))))
  ·exact J.1 (Aa _ (At0.2 (.inr B)))
 ·rw[At0]at B
  rcases B with B|B
  ·rcases Yv B with B|⟨j,C,_,B⟩
   ·exact(P _ B).2.1 rfl
   ·exact O.1 (At0.2 (.inl (Zu C B)))
  ·exact O.1 (At0.2 (.inr B))
 ·subst e
  rcases Yv L with L|⟨j,C,_,L⟩
  ·exact(P _ L).2.2.1 F
  ·exact K.2.2 a (Zu C L) F
theorem Z8.turn{w w2:Bh}{pb po:Nat}{m:Qqp}{S:MS}(h:Z8 w pb po m S){i:Int}(hi:i.toNat<(mC m).length){us':List Bk}{y:Qb}{G:List Nat}{f:Int}
  (X:Q1 (λc=>c=pb\/c=S.cb\/c∈S.Fs.getD i.toNat []) w w2) (v:Q9 S.cb (S.o+i.toNat * 5) 5 w w2) (x:Qqw w2 S.cb (S.o+i.toNat * 5) us') (Y:Ow Q3 w2 us' y G) (a:G.Nodup)
  (d:∀b∈G,b∈S.Fs.getD i.toNat []\/b∉pb::S.all) (M:Q9 pb (po+1) 1 w w2) (z:w2.cell? ⟨pb,po+1,N⟩=R (I Z f)) (A0:Qqm f):
  Z8 w2 pb po ((mC m).set i.toNat y,f,mR m,mX m) (S.put i G):=by
 have A1:=h.nodup;have AB:=h.lt;obtain⟨px,cx,O,h2,h3,h4,h5,P,g,l⟩:=h;have n:=P.len;have H:=Ar.1 A1;have U:S.cb∉S.Fs.flatten++S.Fx/\(S.Fs.flatten++S.Fx).Nodup:=Ar.1 H.2;have p:=Qqn U.2;have AC:pb≠S.cb:=λe=>H.1 (e▸Ae);have AD:∀us:List Bk,us.length=5->Qqw w pb po us->us[1]?=R (I Z (mF m))->True:=λ_ _ _ _=>trivial;refine⟨px,cx,O.keep M, ?_,A0,h4,h5, ?_, ?_,Qeo l a d (by omega)⟩
 ·obtain⟨a1,a2⟩:=Qqw.app (v1:=[_]) h2
  obtain⟨b1,b2⟩:=Qqw.app (v1:=[_]) a2;have c0:=a1.keep O M (by simp);have c2:=b2.keep O M (by simp);simp only[mC,mF,mR,mX,Br,MS.put]at *
  refine Qqw.join (v1:=[_]) c0 (Qqw.join (v1:=[_]) ?_ c2);intro j C;obtain rfl:j=0:=by simpa using C
  exact z
 ·
  have A2:J1 w S.cb S.o S.cap (mC m) S.Fs:=P;have A3:∀b,b<w.heap.size->b≠pb->b≠S.cb->b∉S.Fs.getD i.toNat []->w2.heap[b]?=w.heap[b]?:=λb E x1 x2 x3=>X.block b E (by rintro(e|e|e);exact x1 e;exact x2 e;exact x3 e);obtain⟨q,T,g1,g2,g3,g4,g5,g6,g7⟩:=P;obtain⟨V,r,A4,A5⟩:=v q T g1;have A6:∀j,j<(mC m).length->j≠i.toNat->∀c∈S.Fs.getD j [],c≠pb/\c≠S.cb/\c∉S.Fs.getD i.toNat []:=by
   intro j C A7 c F;have J:=Zu (by omega) F;refine⟨λe=>H.1 (e▸Aa _ (At0.2 (.inl J))),λe=>U.1 (e▸At0.2 (.inl J)),λs=> ?_⟩;have A8:=Dv.1 p.1;have t:=Do.1 A8.2;have q1:i.toNat<S.Fs.length:=by omega
   have K:j<S.Fs.length:=by omega
   rcases En A7 with h|h
   ·exact t j _ K q1 h c (by rwa [Ab,Ad K]at F) c (by rwa [Ab,Ad q1]at s) rfl
   ·exact t _ j q1 K h c (by rwa [Ab,Ad q1]at s) c (by rwa [Ab,Ad K]at F) rfl
  have A9:=Qeo l a d (by omega:i.toNat<S.Fs.length);have AA:=Ar.1 A9;have u:S.cb∉(S.put i G).Fs.flatten++S.Fx/\((S.put i G).Fs.flatten++S.Fx).Nodup:=Ar.1 AA.2;refine⟨V,T,r,by simp only[mC,Br];exact g2,g3,by rw[A4];exact g4,by simp only[MS.put,mC,Br];exact g5,Ar.2 ⟨λJ=>u.1 (At0.2 (.inl J)),(Qqn u.2).1⟩,λj C=> ?_⟩;simp only[mC,Br]at C;simp only[MS.put,mC];rw[Q8u (by simp only[mC]at n;omega)];have AE:us'.length=5:=Y.length;by_cases L:i.toNat=j
  ·subst L
   rw[if_pos rfl];have W:Q25 V (S.o+i.toNat * 5) 5=us':=by
    apply Du;intro k;unfold Q25;rw[Cu];by_cases B:k<5
    ·rw[if_pos B,Ct,Array.getElem?_toList]
     have:=x k (by omega);simp only[Er,r]at this;simp only[Option.isSome_none,Cv,if_false]at this;rw[this,Ad (by omega)]
    ·rw[if_neg B,El (by omega)]
   rw[W];simpa using Y
  ·rw[if_neg L,Dy L]
   have W:Q25 V (S.o+j * 5) 5=Q25 q (S.o+j * 5) 5:=by
    apply Du;intro k;unfold Q25;rw[Cu,Cu];by_cases B:k<5
    ·rw[if_pos B,if_pos B,Ct,Ct,Array.getElem?_toList,Array.getElem?_toList]
     exact A5 _ (by omega)
    ·rw[if_neg B,if_neg B]
   rw[W];refine(g7 j C).kept λc F=> ?_;obtain⟨x1,x2,x3⟩:=A6 j C (λe=>L e.symm) c F;exact A3 c (A2.lt c (Aa _ (Zu (by simp only[mC]at n;omega) F))) x1 x2 x3
 ·refine g.frame X λb E=>⟨g.lt b E, ?_⟩
  rintro(e|e|e)
  ·exact H.1 (e▸Aa _ (At0.2 (.inr E)))
  ·exact U.1 (e▸At0.2 (.inr E))
  ·exact p.2.2 b (Zu (by omega) e) E
theorem Q9.of_frame{w w':Bh}{b:Nat}{X:Nat->Prop}(k:Q1 X w w')(hX:¬X b)(B n:Nat):Q9 b B n w w':=(Q9.refl b B n w).fr k hX
theorem Z8.turnC{w w2:Bh}{pb po:Nat}{m:Qqp}{S:MS}(h:Z8 w pb po m S){i:Int}(E:i.toNat<(mC m).length){us':List Bk}{y:Qb}{G:List Nat}
  (B:Q1 (λc=>c=S.cb\/c∈S.Fs.getD i.toNat []) w w2) (F:Q9 S.cb (S.o+i.toNat * 5) 5 w w2) (H:Qqw w2 S.cb (S.o+i.toNat * 5) us') (J:Ow Q3 w2 us' y G) (K:G.Nodup)
  (L:∀b∈G,b∈S.Fs.getD i.toNat []\/b∉pb::S.all):Z8 w2 pb po (Qf0 m i y) (S.put i G):=by
 have C:=Ar.1 h.nodup;have M:=h.blk;have U:=h.cells.len;have hX:¬(pb=S.cb\/pb∈S.Fs.getD i.toNat []):=by
  rintro(e|e)
  ·exact C.1 (e▸Ae)
  ·exact C.1 (Aa _ (At0.2 (.inl (Zu (by omega) e))))
 obtain⟨px,cx,V,O,P,_⟩:=id h;refine h.turn E (B.mono λc T=> .inr T) F H J K L (Q9.of_frame B hX _ _) ?_ P;rw[B.cell M.lt hX];exact O 1 (by simp)
theorem Z8.turnX{w w2:Bh}{pb po:Nat}{m:Qqp}{S:MS}(h:Z8 w pb po m S){xs:List Wd}{px:Option Cm}{cx:Nat}{Fx:List Nat}
  (L:Q1 (λc=>c=pb\/c∈S.Fx) w w2) (J:Q9 pb (po+4) 1 w w2) (M:w2.cell? ⟨pb,po+4,N⟩=R (A px xs.length cx)) (O:Ow (.slice Q4) w2 [A px xs.length cx] xs Fx) (P:Fx.Nodup)
  (T:∀b∈Fx,b∈S.Fx\/b∉pb::S.all):Z8 w2 pb po (mC m,mF m,mR m,xs) {S with Fx:=Fx}:=by
 obtain⟨l,n,K,U,V,W,X,Y,o,d⟩:=h;have E:=Ar.1 d;have F:S.cb∉S.Fs.flatten++S.Fx/\(S.Fs.flatten++S.Fx).Nodup:=Ar.1 E.2;have G:=Qqn F.2;have H:∀b∈Fx,b≠pb/\b≠S.cb/\b∉S.Fs.flatten:=by
  intro b C;rcases T b C with h|h
  ·exact⟨λe=>E.1 (e▸Aa _ (At0.2 (.inr h))),λe=>F.1 (e▸At0.2 (.inr h)),λB=>G.2.2 b B h⟩
  ·exact⟨λe=>h (e▸Ae),λe=>h (e▸Aa _ Ae),λB=>h (Aa _ (Aa _ (At0.2 (.inl B))))⟩
 refine⟨px,cx,K.keep J, ?_,V,W,X,Y.frame L λb C=> ?_,O, ?_⟩
 ·obtain⟨f,p⟩:=Qqw.app (v1:=[_,_,_,_]) U
  have g:=f.keep K J (by simp);refine Qqw.join (v1:=[_,_,_,_]) g ?_;intro j i;obtain rfl:j=0:=by simpa using i
  exact M
 ·rintro(e|e)
  ·subst e
   rcases Aq.1 C with C|C
   ·exact E.1 (C▸Ae)
   ·exact E.1 (Aa _ (At0.2 (.inl C)))
  ·rcases Aq.1 C with C|C
   ·exact F.1 (C▸At0.2 (.inr e))
   ·exact G.2.2 b C e
 ·show(pb::S.cb::(S.Fs.flatten++Fx)).Nodup
  rw[Ar,Ar,Ba];refine⟨λB=> ?_,λB=> ?_,G.1,P,λa k b C e=>(H b C).2.2 (e▸k)⟩
  ·rw[Aq,At0]at B
   rcases B with B|B|B
   ·exact E.1 (B▸Ae)
   ·exact E.1 (Aa _ (At0.2 (.inl B)))
   ·exact(H _ B).1 rfl
  ·rw[At0]at B
   rcases B with B|B
   ·exact F.1 (At0.2 (.inl B))
   ·exact(H _ B).2.1 rfl
theorem Z8.head{w:Bh}{pb po:Nat}{m:Qqp}{S:MS}(h:Z8 w pb po m S):
  ∃(px:Option Cm) (cx:Nat),w.cell? ⟨pb,po,N⟩=R (A (R ⟨S.cb,S.o,N⟩) (mC m).length S.cap)/\w.cell? ⟨pb,po+1,N⟩=R (I Z (mF m))/\w.cell? ⟨pb,po+2,N⟩=R (I Z (mR m).1)/\w.cell? ⟨pb,po+3,N⟩=R (I Z (mR m).2)/\
   w.cell? ⟨pb,po+4,N⟩=R (A px (mX m).length cx)/\Qqm (mF m)/\Qqm (mR m).1/\Qqm (mR m).2/\Ow (.slice Q4) w [A px (mX m).length cx] (mX m) S.Fx:=by
 obtain⟨px,cx,O,B,C,E,F,P,G,T⟩:=h;obtain⟨H,J,K,L,M⟩:=Q4b B;exact⟨px,cx,H,J,K,L,M,C,E,F,G⟩
theorem Z8.cell{w:Bh}{pb po:Nat}{m:Qqp}{S:MS}(h:Z8 w pb po m S){i:Int}(B:i.toNat<(mC m).length):
  ∃us,us.length=5/\Qqw w S.cb (S.o+i.toNat * 5) us/\Ow Q3 w us (Q7 (mC m) i) (S.Fs.getD i.toNat []):=by
 have:=h.cells.cell i.toNat B;unfold Q7;rw[Qx B];exact this
theorem Qqm.bd{n:Int}(h:Qqm n): -9223372036854775808<=n/\n<=9223372036854775807:=h
theorem J6{e:Ty}{w:Bh}{vs:List Bk}{xs:List e.den}(h:Rd (.slice e) w vs xs):∃(p:Option Cm) (c:Nat),vs=[A p xs.length c]/\xs.length<=c/\xs.length<=Bp/\Rd (.slice e) w [A p xs.length c] xs:=by
 obtain⟨d,rfl,h⟩:=Q04 h;obtain⟨p,c,rfl,B,C,_⟩:=(Yz h).gen;exact⟨p,c,rfl,B,C,h⟩
theorem At.agent{w:Bh}{b o:Nat}{k l v:Int}{d:List Int}{ws:List Wd}(h:At Q3 w b o (k,l,v,d,ws)):
  ∃(E:Option Cm) (B:Nat) (F:Option Cm) (C:Nat),(w.cell? ⟨b,o,N⟩=R (I Z k)/\w.cell? ⟨b,o+1,N⟩=R (I Z l)/\w.cell? ⟨b,o+2,N⟩=R (I Z v)/\w.cell? ⟨b,o+3,N⟩=R (A E d.length B)/\w.cell? ⟨b,o+4,N⟩=R (A F ws.length C))/\
   (Qqm k/\Qqm l/\Qqm v)/\(d.length<=B/\d.length<=Bp/\Rd (.slice .int) w [A E d.length B] d)/\(ws.length<=C/\ws.length<=Bp/\Rd (.slice Q4) w [A F ws.length C] ws):=by
 obtain⟨cs,_,r,⟨_,_,rfl,⟨rfl,J⟩,_,_,rfl,⟨rfl,K⟩,_,_,rfl,⟨rfl,L⟩,_,_,rfl,G,H⟩⟩:=h;obtain⟨E,B,rfl,M,O,G⟩:=J6 G;obtain⟨F,C,rfl,w1,w2,H⟩:=J6 H;simp only[Cc,Bt]at r;exact⟨E,B,F,C,Q4b r,⟨J,K,L⟩,⟨M,O,G⟩,⟨w1,w2,H⟩⟩
theorem At.net{w:Bh}{b o:Nat}{n:List Qb}(h:At Je w b o n):∃(p:Option Cm) (c:Nat),w.cell? ⟨b,o,N⟩=R (A p n.length c)/\n.length<=c/\n.length<=Bp/\Rd (.slice Q3) w [A p n.length c] n:=by
 obtain⟨cs,_,r,B⟩:=h;obtain⟨p,c,rfl,C,E,h⟩:=J6 B;exact⟨p,c,Qac r,C,E,h⟩
theorem At.mem{w:Bh}{b o:Nat}{cs:List Qb}{f t a:Int}{xs:List Wd}(h:At Qo w b o (cs,f,(t,a),xs)):
  ∃(C:Option Cm) (B:Nat) (px:Option Cm) (cx:Nat),(w.cell? ⟨b,o,N⟩=R (A C cs.length B)/\w.cell? ⟨b,o+1,N⟩=R (I Z f)/\w.cell? ⟨b,o+2,N⟩=R (I Z t)/\w.cell? ⟨b,o+3,N⟩=R (I Z a)/\w.cell? ⟨b,o+4,N⟩=R (A px xs.length cx))/\
   (Qqm f/\Qqm t/\Qqm a)/\(cs.length<=B/\cs.length<=Bp/\Rd (.slice Q3) w [A C cs.length B] cs)/\(xs.length<=cx/\xs.length<=Bp/\Rd (.slice Q4) w [A px xs.length cx] xs):=by
 obtain⟨vs,_,r,⟨_,_,rfl,E,_,_,rfl,⟨rfl,G⟩,_,_,rfl,⟨_,_,rfl,⟨rfl,H⟩,⟨rfl,J⟩⟩,F⟩⟩:=h;obtain⟨C,B,rfl,K,L,E⟩:=J6 E;obtain⟨px,cx,rfl,x1,x2,F⟩:=J6 F;simp only[Cc,Bt]at r;exact⟨C,B,px,cx,Q4b r,⟨G,H,J⟩,⟨K,L,E⟩,⟨x1,x2,F⟩⟩
theorem At.worker{w:Bh}{b o:Nat}{H J:Int}{xs:List Wd}{B:List Qqt}{cs:List Int}(h:At Qc w b o (H,J,xs,B,cs)):
  ∃(px:Option Cm) (cx:Nat) (F:Option Cm) (C:Nat) (G:Option Cm) (E:Nat),(w.cell? ⟨b,o,N⟩=R (I Z H)/\w.cell? ⟨b,o+1,N⟩=R (I Z J)/\w.cell? ⟨b,o+2,N⟩=R (A px xs.length cx)/\w.cell? ⟨b,o+3,N⟩=R (A F B.length C)/\w.cell? ⟨b,o+4,N⟩=R (A G cs.length E))/\
   (Qqm H/\Qqm J)/\(xs.length<=cx/\xs.length<=Bp/\Rd (.slice Q4) w [A px xs.length cx] xs)/\(B.length<=C/\B.length<=Bp/\Rd (.slice Qu) w [A F B.length C] B)/\(cs.length<=E/\cs.length<=Bp/\Rd (.slice .int) w [A G cs.length E] cs):=by
 obtain⟨vs,_,r,⟨_,_,rfl,⟨rfl,O⟩,_,_,rfl,⟨rfl,P⟩,_,_,rfl,K,_,_,rfl,L,M⟩⟩:=h;obtain⟨px,cx,rfl,x1,x2,K⟩:=J6 K;obtain⟨F,C,rfl,l1,l2,L⟩:=J6 L;obtain⟨G,E,rfl,S,T,M⟩:=J6 M;simp only[Cc,Bt]at r;exact⟨px,cx,F,C,G,E,Q4b r,⟨O,P⟩,⟨x1,x2,K⟩,⟨l1,l2,L⟩,⟨S,T,M⟩⟩
theorem At.pool{w:Bh}{b o:Nat}{m:Qqp}{ws:List Qqb}{a:Int}(h:At Qr w b o (m,ws,a)):
  At Qo w b o m/\∃(C:Option Cm) (B:Nat),(w.cell? ⟨b,o+5,N⟩=R (A C ws.length B)/\w.cell? ⟨b,o+6,N⟩=R (I Z a))/\Qqm a/\(ws.length<=B/\ws.length<=Bp/\Rd (.slice Qc) w [A C ws.length B] ws):=by
 obtain⟨vs,_,r,⟨v1,L,rfl,E,_,_,rfl,F,⟨rfl,H⟩⟩⟩:=h;obtain⟨C,B,rfl,w1,w2,F⟩:=J6 F;have J:v1.length=5:=E.length;obtain⟨K,G⟩:=Qqw.app r;rw[J]at G;simp only[Cc,Bt]at G;exact⟨⟨v1,E.length,K,E⟩,C,B,Qcy G,H,w1,w2,F⟩
theorem Rd.elem{e:Ty}{w:Bh}{p:Option Cm}{n c:Nat}{xs:List e.den}(h:Rd (.slice e) w [A p n c] xs)(i:Nat)(C:i<xs.length):∃b o,p=R ⟨b,o,N⟩/\At e w b (o+i * e.sz) xs[i]:=by
 obtain⟨J,K,B,_,_,E⟩:=(Yz h).gen;simp only[Value.slice.injEq]at B;obtain⟨rfl,_,_⟩:=B;obtain⟨b,o,rfl,cs,F,G,H⟩:=E i C;exact⟨b,o,rfl,cs,F,G,H⟩
theorem At.int{w:Bh}{b o:Nat}{n:Int}(h:At .int w b o n):w.cell? ⟨b,o,N⟩=R (I Z n)/\Qqm n:=by
 obtain⟨cs,_,r,⟨rfl,i⟩⟩:=h;exact⟨Qac r,i⟩
theorem At.word{w:Bh}{b o:Nat}{t a:Int}(h:At Q4 w b o (t,a)):w.cell? ⟨b,o,N⟩=R (I Z t)/\w.cell? ⟨b,o+1,N⟩=R (I Z a)/\Qqm t/\Qqm a:=by
 obtain⟨cs,_,r,⟨_,_,rfl,⟨rfl,i⟩,⟨rfl,j⟩⟩⟩:=h;obtain⟨B,C⟩:=Qcy r;exact⟨B,C,i,j⟩
theorem At.link{w:Bh}{b o:Nat}{t a B C:Int}(h:At Qu w b o ((t,a),(B,C))):(w.cell? ⟨b,o,N⟩=R (I Z t)/\w.cell? ⟨b,o+1,N⟩=R (I Z a)/\w.cell? ⟨b,o+2,N⟩=R (I Z B)/\w.cell? ⟨b,o+3,N⟩=R (I Z C))/\Qqm t/\Qqm a/\Qqm B/\Qqm C:=by
 obtain⟨cs,_,r,⟨_,_,rfl,⟨_,_,rfl,⟨rfl,i⟩,⟨rfl,j⟩⟩,⟨_,_,rfl,⟨rfl,E⟩,⟨rfl,F⟩⟩⟩⟩:=h;exact⟨Qm3 r,i,j,E,F⟩
theorem At.drew{t:Ty}{w:Bh}{b o:Nat}{x:t.den}(h:At t w b o x){w':Bh}(k:Q0m w w'):At t w' b o x:=h.kept (Am k.below)
theorem Rd.drew{t:Ty}{w:Bh}{vs:List Bk}{x:t.den}(h:Rd t w vs x){w':Bh}(k:Q0m w w'):Rd t w' vs x:=h.kept (Am k.below)
theorem At.drewN{t:Ty}{w:Bh}{b o:Nat}{x:t.den}(h:At t w b o x)(n:Nat):At t (w.drewN n) b o x:=h.drew ⟨n,rfl⟩
theorem Rd.drewN{t:Ty}{w:Bh}{vs:List Bk}{x:t.den}(h:Rd t w vs x)(n:Nat):Rd t (w.drewN n) vs x:=h.drew ⟨n,rfl⟩
theorem Qqe.of_block{t:Ty}{e:Cf}{B g:Nat}{w:Bh}{xs:List t.den}{C:Array Bk}(G:w.heap[g]?=R (.cells C e (0,0)))(H:B<=g)(J:t.flat=Bn)(F:C.toList=Q8p t xs)(K:Q4e (.slice t) xs)(L:xs.length<=Bp):
  Qqe t e B w (A (R ⟨g,0,N⟩) xs.length xs.length) xs:=by
 have E:=Q3w J xs;refine⟨⟨E,.inr ⟨g,xs.length,C,rfl,H,G,Aj _,L, ?_, ?_⟩⟩,K⟩
 ·rw[<-Array.length_toList,F,E]
 ·rw[F,<-E,List.take_length]
theorem Qqe.block{t:Ty}{e:Cf}{B:Nat}{w:Bh}{v:Bk}{xs:List t.den}(h:Qqe t e B w v xs):∀k,v.ownBlock=R k->B<=k/\k<w.heap.size:=by
 intro k C;rcases h.1.2 with⟨rfl,_⟩|⟨g,G,H,rfl,E,F,_⟩
 ·simp[Di]at C
 ·simp[Di]at C
  subst C;exact⟨E,(Al.1 F).1⟩
theorem Qqe.kept{t:Ty}{e:Cf}{B:Nat}{w w':Bh}{v:Bk}{xs:List t.den}(h:Qqe t e B w v xs)(k:Below w.heap.size w w'):Qqe t e B w' v xs:=by
 refine⟨⟨h.1.1, ?_⟩,h.2⟩;rcases h.1.2 with⟨rfl,E⟩|⟨g,F,G,rfl,H,C,J,K,L,M⟩
 ·exact .inl ⟨rfl,E⟩
 ·exact .inr ⟨g,F,G,rfl,H,by rw[k.block g (Al.1 C).1];exact C,J,K,L,M⟩
theorem Qqe.form{t:Ty}{e:Cf}{B:Nat}{w:Bh}{v:Bk}{xs:List t.den}(h:Qqe t e B w v xs):∃(p:Option Cm) (c:Nat),v=A p xs.length c/\xs.length<=c/\c<=Bp:=by
 rcases h.1.2 with⟨rfl,C⟩|⟨g,E,H,rfl,J,K,F,G,L,M⟩
 ·exact⟨N,0,by rw[C],by omega,Ak _⟩
 ·exact⟨_,E,rfl,F,G⟩
theorem Qqe.rd{t:Ty}{e:Cf}{B:Nat}{w:Bh}{v:Bk}{xs:List t.den}(h:Qqe t e B w v xs)(C:t.flat=Bn):Rd (.slice t) w [v] xs:=let ⟨_,o,_⟩:=h.new C;o.rd
theorem Qqe.grew{t:Ty}{e:Cf}{B:Nat}{W w w':Bh}{v:Bk}{xs:List t.den}(h:Qqe t e B w v xs)(C:Below B W w)(E:B<=w.heap.size)(k:w.grownBy w' v.ownBlock):Below B W w':=
 Below.grown C k E λi F=>(h.block i F).1
theorem Q4e.nil{t:Ty}:Q4e (.slice t) ([]:List t.den):=λx B=>by simp at B
theorem Q4e.append{t:Ty}{xs ys:List t.den}(h:Q4e (.slice t) xs)(k:Q4e (.slice t) ys):Q4e (.slice t) (xs++ys:List t.den):=λx B=>(At0.1 B).elim (h x) (k x)
theorem Yj{α β:Type}{f:α->List β}{xs:List α}{k:Nat}(h:k<xs.length):(xs.take (k+1)).flatMap f=(xs.take k).flatMap f++f xs[k]:=by
 rw[An h,Ek];simp
theorem Zz{α β:Type}{f:α->List β}(xs:List α)(k:Nat):((xs.take k).flatMap f).length<=(xs.flatMap f).length:=by
 have h:(xs.take k).flatMap f++(xs.drop k).flatMap f=xs.flatMap f:=by rw[<-Ek,List.take_append_drop]
 have:=congrArg List.length h;rw[Bo]at this;omega
theorem Jt: {t:Ty}-> {w:Bh}-> {vs:List Bk}-> {x:t.den}-> {F:List Nat}->t.flat=Bn->Ow t w vs x F->F=[]
 | .int,_,_,_,_,_,h=>h.2.2
 | .bool,_,_,_,_,_,h=>h.2
 | .pair a b,_,_,_,_,hf,⟨_,_,F1,F2,_,e,h1,h2⟩=>by simp only[Ty.flat,Bl]at hf;rw[e,Jt hf.1 h1,Jt hf.2 h2];rfl
def Q0f(w:Bh)(b:Nat)(T:Cf):Prop:=∃cur,w.heap[b]?=R (.cells cur T (0,0))
theorem Q0f.lt{w:Bh}{b:Nat}{T:Cf}(h:Q0f w b T):b<w.heap.size:=let ⟨_,h⟩:=h;(Al.1 h).1
theorem Q0f.free{w:Bh}{b:Nat}{T:Cf}(h:Q0f w b T)(q:Nat):w.frozen? ⟨b,q,N⟩=Bm:=by obtain⟨_,h⟩:=h;simp[World.frozen?,h]
theorem Q0f.kept{w w':Bh}{b:Nat}{T:Cf}(h:Q0f w b T)(k:Below w.heap.size w w'):Q0f w' b T:=by
 have:=h.lt;obtain⟨c,h⟩:=h;exact⟨c,by rw[k.block b this];exact h⟩
theorem Q0f.grown{w w':Bh}{b:Nat}{T:Cf}{r:Option Nat}(h:Q0f w b T)(k:w.grownBy w' r)(B:r≠R b):Q0f w' b T:=by
 have:=h.lt;obtain⟨c,h⟩:=h;exact⟨c,by rw[k.block b this (λe=>B e.symm)];exact h⟩
theorem Q0f.set{w:Bh}{b:Nat}{T:Cf}(h:Q0f w b T)(p:Cm)(v:Bk):Q0f (w.setCell p v) b T:=by
 obtain⟨c,h⟩:=h;by_cases e:p.block=b
 ·subst e
  refine⟨if p.spot.isSome then c else c.setIfInBounds p.off v, ?_⟩;simp only[World.setCell,Array.getElem?_modify,h];simp
 ·exact⟨c,by rw[Below.heap_setCell _ _ _ _ (λB=>e B.symm)];exact h⟩
theorem Q0f.drew{w:Bh}{b:Nat}{T:Cf}(h:Q0f w b T):Q0f w.drew b T:=h
theorem Q0f.alloc{w:Bh}{b:Nat}{T:Cf}(h:Q0f w b T)(o:Obj):Q0f (w.alloc o) b T:=by
 have:=h.lt;obtain⟨c,h⟩:=h;exact⟨c,by rw[Az _ _ _ this];exact h⟩
theorem Q0f.new(w:Bh)(c:Array Bk)(T:Cf):Q0f (w.alloc (.cells c T)) w.heap.size T:=⟨c,Bg w _⟩
theorem Qqe.ne{t:Ty}{e:Cf}{B:Nat}{w:Bh}{v:Bk}{xs:List t.den}(h:Qqe t e B w v xs){b:Nat}{T:Cf}(F:Q0f w b T)(G:T≠e):v.ownBlock≠R b:=by
 intro C;rcases h.1.2 with⟨rfl,_⟩|⟨g,J,K,rfl,_,E,_⟩
 ·simp[Di]at C
 ·simp[Di]at C
  subst C;obtain⟨c,H⟩:=F;rw[H]at E;simp only[Bu,Obj.cells.injEq]at E;exact G E.2.1
theorem Qqe.setOther{t:Ty}{e:Cf}{B:Nat}{w:Bh}{v:Bk}{xs:List t.den}(h:Qqe t e B w v xs){a:Cm}(C:v.ownBlock≠R a.block)(u:Bk):Qqe t e B (w.setCell a u) v xs:=
 ⟨ownsRow_setCell_other h.1 C u,h.2⟩
theorem Qqe.lo{t:Ty}{e:Cf}{B C:Nat}{w:Bh}{v:Bk}{xs:List t.den}(h:Qqe t e B w v xs)(E:C<=B):Qqe t e C w v xs:=by
 refine⟨⟨h.1.1, ?_⟩,h.2⟩;rcases h.1.2 with h'|⟨g,cap,cur,h1,h2,h3⟩
 ·exact .inl h'
 ·exact .inr ⟨g,cap,cur,h1,Au E h2,h3⟩
theorem Qqe.eqL{t:Ty}{e:Cf}{B:Nat}{w:Bh}{v:Bk}{xs ys:List t.den}(h:Qqe t e B w v xs)(k:xs=ys):Qqe t e B w v ys:=k▸h
theorem Q53{w w':Bh}{r:Option Nat}(k:w.grownBy w' r){b o:Nat}(B:b<w.heap.size)(C:r≠R b):w'.cell? ⟨b,o,N⟩=w.cell? ⟨b,o,N⟩:=
 World.cell?_of_block (w:=w) (k.block b B (λe=>C e.symm))
theorem Q5b(w:Bh)(a b c:Array Bk)(T U V:Cf):
  (((w.alloc (.cells a T)).alloc (.cells b U)).alloc (.cells c V)).heap[w.heap.size]?=R (.cells a T (0,0))/\(((w.alloc (.cells a T)).alloc (.cells b U)).alloc (.cells c V)).heap[w.heap.size+1]?=R (.cells b U (0,0))/\
  (((w.alloc (.cells a T)).alloc (.cells b U)).alloc (.cells c V)).heap[w.heap.size+1+1]?=R (.cells c V (0,0)):=by
 refine⟨?_, ?_, ?_⟩
 ·rw[Az _ _ _ (by simp;omega),Az _ _ _ (by simp)];exact Bg w _
 ·rw[Az _ _ _ (by simp)]
  have:=Bg (w.alloc (.cells a T)) (.cells b U);simpa using this
 ·have:=Bg ((w.alloc (.cells a T)).alloc (.cells b U)) (.cells c V)
  simpa using this
theorem Q2d{t:Ty}{x:t.den}(h:Q4e t x):Q4e (.slice t) ([x]:List t.den):=λy B=>by
 have:y=x:=Bb.1 B;rw[this];exact h
theorem Q3p{a b:Int}(B:Qqm a)(C:Qqm b):Q4e Q4 ((a,b):Int×Int):=⟨B,C⟩
theorem Qm1:Q4e (.slice Q4) ([((0:Int),(0:Int))]:List (Int×Int)):=Q2d (t:=Q4) (Q3p (a:=0) (b:=0) (by unfold Qqm;omega) (by unfold Qqm;omega))
theorem Q8{w:Bh}{b o:Nat}{B:Array Bk}{T:Cf}{fr:Nat×Nat}{v:Bk}(h:w.heap[b]?=R (.cells B T fr))(k:B[o]?=R v):w.cell? ⟨b,o,N⟩=R v:=by
 simp[Er,h,k]
theorem Qic{w w1 w2:Bh}{b o:Nat}{T:Cf}{v:Bk}(C:Q0f w1 b T)(k:w1.cell? ⟨b,o,N⟩=w2.cell? ⟨b,o,N⟩)(h:w.cell? ⟨b,o,N⟩=R v)(B:∀u,w2.cell? ⟨b,o,N⟩=w.cell? ⟨b,o,N⟩\/u=v:=by intro u;left;rw[World.cell?_alloc_lt _ _ _ (by assumption)]):w1.cell? ⟨b,o,N⟩=R v:=by
 rcases B (.bool Bm)with e|e
 ·rw[k,e];exact h
 ·rcases B (.bool Bn)with e'|e'
  ·rw[k,e'];exact h
  ·rw[<-e]at e';simp at e'
def Q21(w:Bh)(b:Nat)(T:Cf):Prop:=w.heap[b]?=R (.cells #[I Z 0,I Z 0,I Z 0,A N 0 0,A N 0 0] T (0,0))
theorem Q21.blk{w:Bh}{b:Nat}{T:Cf}(h:Q21 w b T):Q0f w b T:=⟨_,h⟩
theorem Q21.grown{w w':Bh}{b:Nat}{T:Cf}{r:Option Nat}(h:Q21 w b T)(k:w.grownBy w' r)(B:r≠R b):Q21 w' b T:=by
 unfold Q21 at *
 rw[k.block b (Al.1 h).1 (λe=>B e.symm)];exact h
theorem Q21.alloc{w:Bh}{b:Nat}{T:Cf}(h:Q21 w b T)(o:Obj):Q21 (w.alloc o) b T:=by
 unfold Q21 at *
 rw[Az _ _ _ (Al.1 h).1];exact h
theorem Q21.set{w:Bh}{b:Nat}{T:Cf}(h:Q21 w b T){p:Cm}(B:p.block≠b)(v:Bk):Q21 (w.setCell p v) b T:=by
 unfold Q21 at *
 rw[Below.heap_setCell _ _ _ _ (λC=>B C.symm)];exact h
theorem Q21.cells{w:Bh}{b:Nat}{T:Cf}(h:Q21 w b T):w.cell? ⟨b,0,N⟩=R (I Z 0)/\w.cell? ⟨b,1,N⟩=R (I Z 0)/\w.cell? ⟨b,2,N⟩=R (I Z 0)/\w.cell? ⟨b,3,N⟩=R (A N 0 0)/\w.cell? ⟨b,4,N⟩=R (A N 0 0):=
 ⟨Q8 h rfl,Q8 h rfl,Q8 h rfl,Q8 h rfl,Q8 h rfl⟩
theorem Qq2{w:Bh}{b:Nat}{T:Cf}(h:Q21 w b T)(B v1 C E F:Bk):
  (Qrf w b 0 [B,v1,C,E,F]).cell? ⟨b,0,N⟩=R B/\(Qrf w b 0 [B,v1,C,E,F]).cell? ⟨b,1,N⟩=R v1/\(Qrf w b 0 [B,v1,C,E,F]).cell? ⟨b,2,N⟩=R C/\
  (Qrf w b 0 [B,v1,C,E,F]).cell? ⟨b,3,N⟩=R E/\(Qrf w b 0 [B,v1,C,E,F]).cell? ⟨b,4,N⟩=R F:=by
 have:=V3 [B,v1,C,E,F] 0 w _ h;exact⟨Q8 this rfl,Q8 this rfl,Q8 this rfl,Q8 this rfl,Q8 this rfl⟩
theorem Qmx{n:Nat}:(Cl (n+1) ((0:Int),(0:Int)))=Cl n (0,0)++ [(0,0)]:=by rw[List.replicate_succ']
theorem Qqe.keptG{t:Ty}{e:Cf}{B:Nat}{w w':Bh}{v:Bk}{xs:List t.den}{r:Option Nat}(h:Qqe t e B w v xs)(k:w.grownBy w' r)(E:∀i,v.ownBlock=R i->r≠R i):Qqe t e B w' v xs:=by
 refine⟨⟨h.1.1, ?_⟩,h.2⟩;rcases h.1.2 with⟨rfl,F⟩|⟨g,G,H,rfl,J,C,K,L,M,O⟩
 ·exact .inl ⟨rfl,F⟩
 ·exact .inr ⟨g,G,H,rfl,J,by rw[k.block g (Al.1 C).1 (λe=>E g rfl e.symm)];exact C,K,L,M,O⟩
theorem Qqe.frame{t:Ty}{e:Cf}{B:Nat}{w w':Bh}{v:Bk}{xs:List t.den}{X:Nat->Prop}(h:Qqe t e B w v xs)(k:Q1 X w w')(hX:∀i,v.ownBlock=R i->¬X i):Qqe t e B w' v xs:=by
 refine⟨⟨h.1.1, ?_⟩,h.2⟩;rcases h.1.2 with⟨rfl,E⟩|⟨g,F,G,rfl,H,C,J,K,L,M⟩
 ·exact .inl ⟨rfl,E⟩
 ·exact .inr ⟨g,F,G,rfl,H,by rw[k.block g (Al.1 C).1 (hX g rfl)];exact C,J,K,L,M⟩
theorem Qqe.ow{t:Ty}{e:Cf}{B:Nat}{w:Bh}{v:Bk}{xs:List t.den}(h:Qqe t e B w v xs)(J:t.flat=Bn):∃F,Ow (.slice t) w [v] xs F/\F.Nodup/\∀b∈F,B<=b/\Q0f w b e:=by
 have K:=h.new J;obtain⟨F,M,U,V⟩:=K;refine⟨F,M,U,λb C=>⟨(V b C).1, ?_⟩⟩;obtain⟨W,X,O⟩:=M;obtain rfl:v=W:=by simpa using X
 rcases h.1.2 with⟨rfl,K⟩|⟨g,Y,P,rfl,l,a,m,n,p,q⟩
 ·rcases O with⟨_,E,_⟩|⟨c,o,Y,P,T,d,G,_⟩
  ·rw[E]at C;simp at C
  ·simp at G
 ·rcases O with⟨_,E,_⟩|⟨c,o,r,s,T,d,G,u,_,_,_,E,x,f⟩
  ·rw[E]at C;simp at C
  ·simp only[Value.slice.injEq,Bu,Addr.mk.injEq]at G
   obtain⟨⟨rfl,_,_⟩,_,_⟩:=G;rw[E]at C;rcases Aq.1 C with rfl|C
   ·exact⟨P,a⟩
   ·exfalso
    obtain⟨L,j,S⟩:=Ht.1 C;obtain⟨i,k,rfl⟩:=Av.1 j;have:=f i (by omega);have H:=Jt J this;rw[Ab,Ad k]at H;simp only[Option.getD_some]at H;rw[H]at S;simp at S
theorem Q0f.one{w:Bh}{b:Nat}{S T:Cf}(h:Q0f w b S)(k:Q0f w b T):S=T:=by
 obtain⟨_,h⟩:=h;obtain⟨_,k⟩:=k;rw[h]at k;simp only[Bu,Obj.cells.injEq]at k;exact k.2.1
theorem Qpf{w W:Bh}(C:Below w.heap.size w W){B:Cm}{v1:Bk}(E:w.cell? B=R v1):W.cell? B=R v1:=(Am C).cell _ _ E
theorem Qpa{w W:Bh}(B:Below w.heap.size w W){C:Cm}{v1:Bk}{E:Cm}{F:Bk}(G:w.cell? C=R v1)(H:w.cell? E=R F):W.cell? C=R v1/\W.cell? E=R F:=⟨(Am B).cell _ _ G,(Am B).cell _ _ H⟩
theorem Q9c{w W:Bh}(B:Below w.heap.size w W){C:Cm}{v1:Bk}{E:Cm}{F:Bk}{G:Cm}{H:Bk}(J:w.cell? C=R v1)(K:w.cell? E=R F)(L:w.cell? G=R H):W.cell? C=R v1/\W.cell? E=R F/\W.cell? G=R H:=⟨(Am B).cell _ _ J,(Am B).cell _ _ K,(Am B).cell _ _ L⟩
theorem Q6z{w W:Bh}(B:Below w.heap.size w W){C:Cm}{v1:Bk}{E:Cm}{F:Bk}{G:Cm}{H:Bk}{J:Cm}{K:Bk}(L:w.cell? C=R v1)(M:w.cell? E=R F)(O:w.cell? G=R H)(P:w.cell? J=R K):W.cell? C=R v1/\W.cell? E=R F/\W.cell? G=R H/\W.cell? J=R K:=⟨(Am B).cell _ _ L,(Am B).cell _ _ M,(Am B).cell _ _ O,(Am B).cell _ _ P⟩
theorem Qar{w W:Bh}(B:Below w.heap.size w W){C:Cm}{v1:Bk}{E:Cm}{F:Bk}{G:Cm}{H:Bk}{J:Cm}{K:Bk}{L:Cm}{M:Bk}(O:w.cell? C=R v1)(P:w.cell? E=R F)(S:w.cell? G=R H)(T:w.cell? J=R K)(U:w.cell? L=R M):W.cell? C=R v1/\W.cell? E=R F/\W.cell? G=R H/\W.cell? J=R K/\W.cell? L=R M:=⟨(Am B).cell _ _ O,(Am B).cell _ _ P,(Am B).cell _ _ S,(Am B).cell _ _ T,(Am B).cell _ _ U⟩
theorem Qpg{w W:Bh}(B:Below w.heap.size w W){C:Cm}{v1:Bk}{E:Cm}{F:Bk}{G:Cm}{H:Bk}{J:Cm}{K:Bk}{L:Cm}{M:Bk}{O:Cm}{P:Bk}(S:w.cell? C=R v1)(T:w.cell? E=R F)(U:w.cell? G=R H)(V:w.cell? J=R K)(X:w.cell? L=R M)(Y:w.cell? O=R P):W.cell? C=R v1/\W.cell? E=R F/\W.cell? G=R H/\W.cell? J=R K/\W.cell? L=R M/\W.cell? O=R P:=⟨(Am B).cell _ _ S,(Am B).cell _ _ T,(Am B).cell _ _ U,(Am B).cell _ _ V,(Am B).cell _ _ X,(Am B).cell _ _ Y⟩
theorem Qop{w W:Bh}(B:Below w.heap.size w W){C:Cm}{v1:Bk}{E:Cm}{F:Bk}{G:Cm}{H:Bk}{J:Cm}{K:Bk}{L:Cm}{M:Bk}{O:Cm}{P:Bk}{S:Cm}{T:Bk}(U:w.cell? C=R v1)(V:w.cell? E=R F)(X:w.cell? G=R H)(Y:w.cell? J=R K)(a:w.cell? L=R M)(b:w.cell? O=R P)(c:w.cell? S=R T):W.cell? C=R v1/\W.cell? E=R F/\W.cell? G=R H/\W.cell? J=R K/\W.cell? L=R M/\W.cell? O=R P/\W.cell? S=R T:=⟨(Am B).cell _ _ U,(Am B).cell _ _ V,(Am B).cell _ _ X,(Am B).cell _ _ Y,(Am B).cell _ _ a,(Am B).cell _ _ b,(Am B).cell _ _ c⟩
theorem Yp{P:Eq}(w:Bh){G:Array Oper}{o:Oper}{a:Act}{K:Act->Bh->Prop}{Q:Exit->Act->Bh->Prop}{E:Prop}(H:o.guard=N)(s x:Operand)(C:Cf)
  (J:o.op=Op.call {callee:=Callee.builtin Builtin.append,args:=#[s,x],argTypes:=#[C,C]}) {t:Ty} (hf:t.flat=Bn) (hs0:0<t.sz) (B:Nat) (e:Cf) (i:TypeInfo) (z:Bk) (bytes:Nat) (ht:P.underlying C=R (.slice e)) (hi:P.info? e=R i) (hz:i.zero=R z)
  (hsize:i.size=t.sz) (hby:i.bytes=bytes) (hzs:z.cells.size=t.sz) (hb:bytes<=100) {v u:Bk} {xs ys:List t.den} (hv:a.eval s=v) (hu:a.eval x=u) (hown:Qqe t e B w v xs) (hrd:Rd (.slice t) w [u] ys) (hlen:xs.length+ys.length<=1000000000) (hB:B<=w.heap.size)
  (hK:∀F w',Qqe t e B w' F (xs++ys)->w.grownBy w' v.ownBlock->K (a.put o.dst F) w'):if Region.wanted o (yielded G a.tmps)=Bn then Oper.wp P o a w K Q else E:=by
 have L:Region.wanted o (yielded G a.tmps)=Bn:=by simp[Region.wanted,H]
 rw[if_pos L];obtain⟨F,w',M,O,S⟩:=Q3d (P:=P) w hf hs0 B C o.type e i z bytes ht hi hz hsize hby hzs hb hown hrd hlen hB;unfold Oper.wp;simp[execOp,J,resolve,invoke,builtin,hv,hu,M,Result.andThen];exact hK F w' O S
theorem Js(w:Bh)(n B C:Int):Bq prog 88 #[I Z n,I Z B,I Z C] w λe w'=>e=.returned (.bool (Qqz n B C))/\w=w':=by
 go_enter func88,ntmps88;go_wp2;all_goals(go_ret;exact⟨Vk (by first|(simp_all[Qqz];done)|(simp_all[Qqz];omega)),rfl⟩)
theorem Qnx(w:Bh)(a b:Int):Bq prog 140 #[I Z a,I Z b] w λe w'=>e=.returned (I Z (min a b))/\w=w':=by
 go_enter func140,ntmps140;go_wp2;all_goals(go_ret;exact⟨Qm (by omega),rfl⟩)
theorem Qjv(w:Bh)(a b:Int):Bq prog 141 #[I Z a,I Z b] w λe w'=>e=.returned (I Z (max a b))/\w=w':=by
 go_enter func141,ntmps141;go_wp2;all_goals(go_ret;exact⟨Qm (by omega),rfl⟩)
theorem Qon(w:Bh)(b:Bool):Bq prog 228 #[.bool b] w λe w'=>e=.returned (I Z (Q23 b))/\w=w':=by
 go_enter func228,ntmps228;go_wp2;all_goals(go_ret;exact⟨Qm (by simp_all[Q23]),rfl⟩)
theorem Qoz(w:Bh)(k:Int):Bq prog 252 #[I Z k] w λe w'=>e=.returned (.bool (Q20 k))/\w=w':=by
 go_enter func252,ntmps252;go_wp2_with(go_at_call 88;refine(Js _ _ _ _).mono ?_;rintro e w' ⟨rfl,rfl⟩)
 go_ret;exact⟨rfl,rfl⟩
theorem Qdi(w:Bh)(k:Int):Bq prog 253 #[I Z k] w λe w'=>e=.returned (.bool (Q3r k))/\w=w':=by
 go_enter func253,ntmps253;go_wp2_with(go_at_call 88;refine(Js _ _ _ _).mono ?_;rintro e w' ⟨rfl,rfl⟩)
 go_ret;exact⟨rfl,rfl⟩
theorem Q60(w:Bh)(k:Int):Bq prog 224 #[I Z k] w λe w'=>e=.returned (.bool (Y1 k))/\w=w':=by
 go_enter func224,ntmps224;go_wp2;all_goals(go_ret;exact⟨Vk (by simp_all[Y1]),rfl⟩)
theorem Qc0(w:Bh)(k:Int):Bq prog 256 #[I Z k] w λe w'=>e=.returned (.bool (Q3o k))/\w=w':=by
 go_enter func256,ntmps256;go_wp2;all_goals(go_ret;exact⟨Vk (by simp_all[Q3o]),rfl⟩)
theorem Q8v(w:Bh)(k l:Int):Bq prog 218 #[I Z k,I Z l] w λe w'=>e=.returned (.bool (Zy k l))/\w=w':=by
 go_enter func218,ntmps218;go_wp2_with(first|(go_at_call 88;refine(Js _ _ _ _).mono ?_;rintro e w' ⟨rfl,rfl⟩)|(go_at_call 224;refine(Q60 _ _).mono ?_;rintro e w' ⟨rfl,rfl⟩)|(go_at_call 252;refine(Qoz _ _).mono ?_;rintro e w' ⟨rfl,rfl⟩))
 all_goals(go_ret;exact⟨Vk (by simp_all[Zy]),rfl⟩)
theorem Qct(w:Bh)(a k l:Int):Bq prog 255 #[I Z a,I Z k,I Z l] w λe w'=>e=.returned (.bool (Q2r a k l))/\w=w':=by
 go_enter func255,ntmps255;go_wp2_with(first|(go_at_call 88;refine(Js _ _ _ _).mono ?_;rintro e w' ⟨rfl,rfl⟩)|(go_at_call 224;refine(Q60 _ _).mono ?_;rintro e w' ⟨rfl,rfl⟩)|(go_at_call 218;refine(Q8v _ _ _).mono ?_;rintro e w' ⟨rfl,rfl⟩))
 all_goals(go_ret;exact⟨Vk (by simp_all[Q2r]),rfl⟩)
theorem Qb5(w:Bh)(k f:Int):Bq prog 216 #[I Z k,I Z f] w λe w'=>e=.returned (I Z (Q0b k f))/\w=w':=by
 by_cases h:Qqz f 0 3=Bn
 ·have B:=Ql.1 h
  go_enter func216,ntmps216;go_wp2_with(go_at_call 88;refine(Js _ _ _ _).mono ?_;rintro e w' ⟨rfl,rfl⟩)
  all_goals(go_ret;exact⟨Qm (by simp_all[Q0b]),rfl⟩)
 ·have h:Qqz f 0 3=Bm:=by simpa using h
  go_enter func216,ntmps216;go_wp2_with(go_at_call 88;refine(Js _ _ _ _).mono ?_;rintro e w' ⟨rfl,rfl⟩)
  all_goals(go_ret;exact⟨Qm (by simp_all[Q0b]),rfl⟩)
theorem Qln(w:Bh)(ka la kb lb:Int):Bq prog 223 #[I Z ka,I Z la,I Z kb,I Z lb] w λe w'=>e=.returned (I Z (V9 ka la kb lb))/\w=w':=by
 go_enter func223,ntmps223;go_wp2_with(first|(go_at_call 255;refine(Qct _ _ _ _).mono ?_;rintro e w' ⟨rfl,rfl⟩)|(go_at_call 256;refine(Qc0 _ _).mono ?_;rintro e w' ⟨rfl,rfl⟩))
 all_goals(go_ret;exact⟨Qm (by simp_all[V9]),rfl⟩)
theorem Ql8(w:Bh)(ka la kb lb:Int):Bq prog 222 #[I Z ka,I Z la,I Z kb,I Z lb] w λe w'=>e=.returned (.bool (Q4t ka la kb lb))/\w=w':=by
 go_enter func222,ntmps222;go_wp2_with(go_at_call 218;refine(Q8v _ _ _).mono ?_;rintro e w' ⟨rfl,rfl⟩)
 all_goals(go_ret;exact⟨Vk (by simp_all[Q4t]),rfl⟩)
theorem Jz(w:Bh)(ka la kb lb:Int):Bq prog 220 #[I Z ka,I Z la,I Z kb,I Z lb] w λe w'=>e=.returned (I Z (Yx ka la kb lb))/\w=w':=by
 go_enter func220,ntmps220;go_wp2_with(first|(go_at_call 222;refine(Ql8 _ _ _ _ _).mono ?_;rintro e w' ⟨rfl,rfl⟩)|(go_at_call 223;refine(Qln _ _ _ _ _).mono ?_;rintro e w' ⟨rfl,rfl⟩))
 all_goals(go_ret;exact⟨Qm (by simp_all[Yx]),rfl⟩)
theorem Qh1(w:Bh)(ka la kb lb:Int):Bq prog 187 #[I Z ka,I Z la,I Z kb,I Z lb] w λe w'=>e=.returned (I Z (V2 ka la kb lb))/\w=w':=by
 go_enter func187,ntmps187;go_wp2_with(first|(go_at_call 222;refine(Ql8 _ _ _ _ _).mono ?_;rintro e w' ⟨rfl,rfl⟩)|(go_at_call 223;refine(Qln _ _ _ _ _).mono ?_;rintro e w' ⟨rfl,rfl⟩))
 all_goals(go_ret;exact⟨Qm (by simp_all[V2]),rfl⟩)
theorem Q2{a b:Bool}(h:a=b):Ending.returned (.bool a)=.returned (.bool b):=by rw[h]
theorem Qep(w:Bh)(b o:Nat)(k l v:Int)(d:List Int)(ws:List Wd)(h:At Q3 w b o (k,l,v,d,ws)):
  Bq prog 217 #[.pointer (R ⟨b,o,N⟩)] w λe w'=>e=.returned (I Z (Q1l k ws.length))/\w=w':=by
 obtain⟨F,G,H,J,⟨K,L,M,O,P⟩,⟨S,T,U⟩,⟨V,B,C⟩,⟨w1,w2,E⟩⟩:=h.agent;unfold Bp at B w2;clear C E h;go_enter func217,ntmps217;go_wp2;all_goals(go_ret;exact⟨Qm (by simp_all[Q1l]),rfl⟩)
theorem Qba(w:Bh)(b o:Nat)(k l v:Int)(d:List Int)(ws:List Wd)(h:At Q3 w b o (k,l,v,d,ws)):
  Bq prog 219 #[.pointer (R ⟨b,o,N⟩)] w λe w'=>e=.returned (.bool (Zt k v d))/\w=w':=by
 obtain⟨pd,cd,pw,cw,⟨c0,p,c2,c3,r⟩,⟨i0,i1,i2⟩,⟨d1,s,a⟩,⟨w1,w2,t⟩⟩:=h.agent;unfold Bp at s w2;have M:=qh a;clear a t h w1 w2 p r;by_cases L:k=10\/k=11
 ·by_cases F:v=0/\((k=10->Qqz d.length 1 4=Bn)/\(k=11->(d.length:Int)=2))
  ·obtain⟨B,U,V⟩:=F
   subst B;have C:Zt k 0 d=d.all Q3r:=by
    rcases L with rfl|rfl
    ·simp[Zt,U]
    ·simp[Zt,V]
   have C:=qh C;rcases L with rfl|rfl
   ·have W:=qh (U rfl)
    clear U V;go_enter func219,ntmps219;go_wp2_with(go_at_call 88;refine(Js _ _ _ _).mono ?_;rintro e w' ⟨rfl,rfl⟩;rw[W.o])
    go_loopw [3] (λi wr=>∃j:Nat,j<=d.length/\i=I Z j/\D (∀(q:Nat) (H:q<d.length),q<j->Q3r d[q]=Bn)/\wr=w) (λi _=>d.length-(intOf i).toNat);case atStart=>exact⟨0,Ak _,rfl,λq _ h=>absurd h (Da _),rfl⟩
    case round=>
     obtain⟨j,u,rfl,O,rfl⟩:=hrel;by_cases P:j<d.length
     ·obtain⟨c,f,rfl,G⟩:=Rd.elem M.o j P
      generalize J:d[j]=x at G;have S:=qh J;clear J;obtain⟨T,g⟩:=G.int;simp only[Ty.sz,Cb]at T;clear G;cases hdf:Q3r x with
      |true=>
       have E:=qh hdf;go_wp2_with(go_at_call 253;refine(Qdi _ _).mono ?_;rintro e w' ⟨rfl,rfl⟩;rw[E.o])
       go_roundw;case rel=>exact⟨j+1,by omega,by go_num,λq H y=>(by
        by_cases X:q=j
        ·subst X;rw[S.o];exact E.o
        ·exact O.o q H (by omega)),trivial⟩
       case measure=>simp[intOf];omega
      |false=>
       have E:=qh hdf;go_wp2_with(go_at_call 253;refine(Qdi _ _).mono ?_;rintro e w' ⟨rfl,rfl⟩;rw[E.o])
       go_ret;refine⟨Q2 ?_,rfl⟩;rw[C.o];symm;rw[Fb];exact⟨d[j],As P,by rw[S.o,E.o];simp⟩
     ·have z:d.length<=j:=by omega
      go_wp2;go_ret;refine⟨Q2 ?_,rfl⟩;rw[C.o];symm;rw[Bf];intro x J;obtain⟨q,H,rfl⟩:=Av.1 J;exact O.o q H (by omega)
   ·have A0:((d.length:Int) !=2)=Bm:=by rw[V rfl];rfl
    clear U V;go_enter func219,ntmps219;go_wp2_with fail
    go_loopw [3] (λi wr=>∃j:Nat,j<=d.length/\i=I Z j/\D (∀(q:Nat) (H:q<d.length),q<j->Q3r d[q]=Bn)/\wr=w) (λi _=>d.length-(intOf i).toNat);case atStart=>exact⟨0,Ak _,rfl,λq _ h=>absurd h (Da _),rfl⟩
    case round=>
     obtain⟨j,u,rfl,O,rfl⟩:=hrel;by_cases P:j<d.length
     ·obtain⟨c,f,rfl,G⟩:=Rd.elem M.o j P
      generalize J:d[j]=x at G;have S:=qh J;clear J;obtain⟨T,g⟩:=G.int;simp only[Ty.sz,Cb]at T;clear G;cases hdf:Q3r x with
      |true=>
       have E:=qh hdf;go_wp2_with(go_at_call 253;refine(Qdi _ _).mono ?_;rintro e w' ⟨rfl,rfl⟩;rw[E.o])
       go_roundw;case rel=>exact⟨j+1,by omega,by go_num,λq H y=>(by
        by_cases X:q=j
        ·subst X;rw[S.o];exact E.o
        ·exact O.o q H (by omega)),trivial⟩
       case measure=>simp[intOf];omega
      |false=>
       have E:=qh hdf;go_wp2_with(go_at_call 253;refine(Qdi _ _).mono ?_;rintro e w' ⟨rfl,rfl⟩;rw[E.o])
       go_ret;refine⟨Q2 ?_,rfl⟩;rw[C.o];symm;rw[Fb];exact⟨d[j],As P,by rw[S.o,E.o];simp⟩
     ·have z:d.length<=j:=by omega
      go_wp2;go_ret;refine⟨Q2 ?_,rfl⟩;rw[C.o];symm;rw[Bf];intro x J;obtain⟨q,H,rfl⟩:=Av.1 J;exact O.o q H (by omega)
  ·have C:D (Zt k v d=Bm):=qh (by
    rcases L with rfl|rfl
    ·simp only[Zt]
     simp at F;by_cases B:v=0
     ·simp[F B]
     ·simp[B]
    ·simp only[Zt]
     simp at F;by_cases B:v=0
     ·simp[F B]
     ·simp[B])
   by_cases B:v=0
   ·subst B
    rcases L with rfl|rfl
    ·have W:D (Qqz d.length 1 4=Bm):=qh (by simpa using F)
     clear F;go_enter func219,ntmps219;go_wp2_with(go_at_call 88;refine(Js _ _ _ _).mono ?_;rintro e w' ⟨rfl,rfl⟩;rw[W.o])
     go_ret;exact⟨Q2 C.o.symm,rfl⟩
    ·have A0:((d.length:Int) !=2)=Bn:=by simpa using F
     clear F;go_enter func219,ntmps219;go_wp2_with fail
     go_ret;exact⟨Q2 C.o.symm,rfl⟩
   ·have A2:(v !=0)=Bn:=by simp[B]
    clear F B;rcases L with rfl|rfl
    ·go_enter func219,ntmps219
     go_wp2_with fail
     go_ret;exact⟨Q2 C.o.symm,rfl⟩
    ·go_enter func219,ntmps219
     go_wp2_with fail
     go_ret;exact⟨Q2 C.o.symm,rfl⟩
 ·have m:(k==10)=Bm:=by simp;omega
  have n:(k==11)=Bm:=by simp;omega
  clear L;by_cases K:k=8/\d.length=1
  ·obtain⟨rfl,A1⟩:=K
   obtain⟨x,rfl⟩:∃x,d=[x]:=by
    match d,A1 with
    | [x],_=>exact⟨x,rfl⟩
   obtain⟨c,f,rfl,G⟩:=Rd.elem M.o 0 (by simp);obtain⟨T,g⟩:=G.int;simp only[Nat.zero_mul,Nat.add_zero,List.getElem_cons_zero]at T;clear G M m n;go_enter func219,ntmps219;go_wp2_with(go_at_call 88;refine(Js _ _ _ _).mono ?_;rintro e w' ⟨rfl,rfl⟩)
   all_goals(go_ret;exact⟨Q2 (by simp_all[Zt]),rfl⟩)
  ·have Y:k=8->((d.length:Int)==1)=Bm:=by intro h;simp at K⊢;have:=K h;omega
   clear K M;by_cases K:k=8
   ·have hl:=Y K
    subst K;clear Y m n;go_enter func219,ntmps219;go_wp2_with(go_at_call 88;refine(Js _ _ _ _).mono ?_;rintro e w' ⟨rfl,rfl⟩)
    all_goals(go_ret;exact⟨Q2 (by simp_all[Zt]),rfl⟩)
   ·have A3:(k==8)=Bm:=by simp[K]
    clear Y K;go_enter func219,ntmps219;go_wp2_with(first|(go_at_call 88;refine(Js _ _ _ _).mono ?_;rintro e w' ⟨rfl,rfl⟩)|(go_at_call 253;refine(Qdi _ _).mono ?_;rintro e w' ⟨rfl,rfl⟩))
    all_goals(go_ret;exact⟨Q2 (by simp_all[Zt]),rfl⟩)
theorem Qps(a b c:Bool):a=Bm\/(a=Bn/\b=Bm)\/(a=Bn/\b=Bn/\c=Bm)\/(a=Bn/\b=Bn/\c=Bn):=by cases a<;>cases b<;>cases c<;>simp
theorem Qpz(a b c d:Bool):a=Bm\/(a=Bn/\b=Bm)\/(a=Bn/\b=Bn/\c=Bm)\/(a=Bn/\b=Bn/\c=Bn/\d=Bm)\/(a=Bn/\b=Bn/\c=Bn/\d=Bn):=by cases a<;>cases b<;>cases c<;>cases d<;>simp
theorem Qqc{P:Eq}{f:Nat}{B:Array Bk}{W:Bh}{v:Bk}(h:Bq P f B W λe w'=>e=.returned v/\W=w'):Bq P f B W λe w'=>e=.returned v/\Q0m W w':=
 h.mono λ_ _ ⟨C,hw⟩=>⟨C,hw▸Q0m.refl _⟩
theorem Yi{P:Eq}{f:Nat}{B:Array Bk}{w:Bh}{n:Nat}{v u:Bk}(h:Bq P f B (w.drewN n) λe w'=>e=.returned v/\Q0m (w.drewN n) w')(e:v=u):Bq P f B (w.drewN n) λe w'=>e=.returned u/\∃m,w'=w.drewN m:=
 h.mono λ_ _ ⟨C,m,hm⟩=>⟨by rw[C,e],n+m,by rw[hm,World.drewN_drewN]⟩
theorem Yh{P:Eq}{f:Nat}{B:Array Bk}{w:Bh}{a n:Nat}{v u:Bk}(h:Bq P f B (w.drewN (a+n)) λe w'=>e=.returned v/\Q0m (w.drewN (a+n)) w')(e:v=u):Bq P f B (w.drewN (a+n)) λe w'=>e=.returned u/\∃m,w'=w.drewN (a+m):=
 h.mono λ_ _ ⟨C,m,hm⟩=>⟨by rw[C,e],n+m,by rw[hm,World.drewN_drewN,Hb]⟩
theorem Qr7{a b:Bool}(h:a=b):Value.bool a=Value.bool b:=by rw[h]
theorem Q8q(w:Bh)(b o:Nat)(k l v:Int)(d:List Int)(ws:List Wd)(h:At Q3 w b o (k,l,v,d,ws)):
  Bq prog 182 #[.pointer (R ⟨b,o,N⟩)] w λe w'=>e=.returned (.bool (Yc (k,l,v,d,ws)))/\Q0m w w':=by
 obtain⟨K,L,M,O,⟨S,T,U,V,W⟩,⟨X,Y,c⟩,⟨f,E,F⟩,⟨w1,w2,G⟩⟩:=h.agent;unfold Bp at E w2;have B:=qh h;clear F G h;generalize hP:Q0b k (Q1l k ws.length)=P;have C:=qh hP;have H:D (Yc (k,l,v,d,ws)=(decide (0<P) && ((ws.length:Int)==P) && Zy k l && Zt k v d)):=qh (by simp only[Yc,aK,aL,aV,aD,aW,hP]);clear hP;have g:∀a b:Int,decide (a>b)=decide (b<a):=λa b=>rfl;rcases Qpz (decide (0<P)) ((ws.length:Int)==P) (Zy k l) (Zt k v d)with q0|⟨q0,q1⟩|⟨q0,q1,q2⟩|⟨q0,q1,q2,q3⟩|⟨q0,q1,q2,q3⟩
 all_goals
  have J:D ((decide (0<P) && ((ws.length:Int)==P) && Zy k l && Zt k v d)=_):=qh (by simp only[*,Bool.false_and,Bool.true_and,Bool.and_true,Bool.and_false];exact rfl);go_enter func182,ntmps182;go_wp2_with fail
  go_quiet(first|(go_at_call 217;first|exact Yi (Qqc (Qep _ _ _ _ _ _ _ _ (B.o.drewN _))) (rfl)|exact Yh (Qqc (Qep _ _ _ _ _ _ _ _ (B.o.drewN _))) (rfl))|(go_at_call 216;first|exact Yi (Qqc (Qb5 _ _ _)) (by rw[C.o])|exact Yh (Qqc (Qb5 _ _ _)) (by rw[C.o])))
  go_wp2;go_quiet(first|(go_at_call 218;first|exact Yi (Qqc (Q8v _ _ _)) (Qr7 q2)|exact Yh (Qqc (Q8v _ _ _)) (Qr7 q2))|(go_at_call 219;first|exact Yi (Qqc (Qba _ _ _ _ _ _ _ _ (B.o.drewN _))) (Qr7 q3)|exact Yh (Qqc (Qba _ _ _ _ _ _ _ _ (B.o.drewN _))) (Qr7 q3)))
  go_wp2;go_ret;exact⟨Q2 (by rw[H.o,J.o]),Q0m.more ⟨_,rfl⟩ _⟩
end Go.Proofs.YthbpkpnioaniiaaGreat
