import Derived.Lib.ItoaLen
import Derived.Test.YtcjngpfigpglfaaGreatDoorP09
import Derived.Test.YtcjngpfigpglfaaGreatDoorP13
set_option maxHeartbeats 0
set_option maxRecDepth 100000
set_option linter.all false
namespace Go.Proofs.YtcjngpfigpglfaaGreatDoor
open Go.RowKit Go.Proofs.Tryz
open Go.Value renaming int->I,slice->A
open Go.IntKind renaming i64->Z
open Option renaming none->N,some->R
open OC(oC)
open OR(oR)
open JN(jN)
open Bool renaming false->Bm,false_and->Ct,true->Bn,true_and->Ea,and_eq_true->Bi
open Go renaming World->Bh,Calls->Bv,maxLen->Bu,heap_alloc_new->Bg,wpQuiet_nil->Ek
open Go.RowKit renaming Below->Bp,intOf->By
open Go.Value renaming ownBlock->Da
open List renaming flatMap_cons->Cr,length_append->Bo,length_cons->Br,flatMap_append->Dy,append_assoc->Co,not_mem_nil->Cs,mem_map->Dx,setIfInBounds_toArray->Cn,set_cons_zero->Cv,set_cons_succ->Cx
open Nat renaming succ_mul->Dv,reduceAdd->Bj
open Option.some renaming injEq->Bt
def KM(B:Nat)(w:Bh)(b:Nat)(bs:List UInt8):Prop:=∃sv,(w,oC b #[sv] 241)/\w.ownsRow B 5 1 sv bs (Lib.byteCells bs)
structure KF (B b:Nat) (w w':Bh):Prop where
 below:Bp B w w'
 rest:Lib.OthersKept 5 (R b) w w'
theorem KF.refl(B b w):KF B b w w:=⟨Ai _ _,Lib.OthersKept.refl _ _ _⟩
theorem KF.trans{B b w x y}(h:KF B b w x)(k:KF B b x y):KF B b w y:=⟨h.below.trans k.below,h.rest.trans k.rest⟩
theorem KF.alloc{B b w x}(h:KF B b w x)(C:B<=x)(o):KF B b w (x.alloc o):=⟨h.below.alloc C o,h.rest.alloc o⟩
theorem KF.drew{B b w x}(h:KF B b w x):KF B b w x.drew:=⟨h.below.drew,h.rest.drew⟩
def Qsk{B b}{w:Bh}{E v n xs}(h:w.heap[b]?=R (.cells #[E] 241))(k:w.ownsRow B 5 1 v n xs):v.ownBlock≠R b:=by
 rcases k.2 with⟨rfl,-⟩|⟨g,F,cur,rfl,-,C,-⟩
 ·simp[Da]
 simp only[Da,ne_eq,Bt];rintro rfl;rw[h]at C;simp at C
def Qb9{B b w C v bs}(h:w.heap[b]?=R (.cells #[C] 241))(E:B<=b)(k:w.ownsRow B 5 1 v bs (Lib.byteCells bs)):
  KM B (w.setCell (b,0) v) b bs/\KF B b w (w.setCell (b,0) v):=by
 have F:=Qsk h k;refine⟨⟨v,by rw[Z1 h];rfl,k.1, ?_⟩,⟨(Ai _ _).setCell E _,(Lib.OthersKept.refl _ _ _).setCell (b,0) rfl v⟩⟩;rcases k.2 with h|⟨g,cap,cur,rfl,h1,h2,h3⟩
 ·exact .inl h
 exact .inr ⟨g,cap,cur,rfl,h1,by rw[Below.heap_setCell _ _ _ _ (λe=>F (by simp[Da];exact e))];exact h2,h3⟩
def Qju{B b:Nat}{w x C}(h:w.heap[b]?=R (.cells #[C] 241))(k:Lib.OthersKept 5 N w x):x.heap[b]?=R (.cells #[C] 241):=
 k b _ h (by simp) (by intro c E e;simp at e)
theorem Qjb{B b w x}(h:Bp B w x)(k:Lib.OthersKept 5 N w x):KF B b w x:=⟨h,λi o C _ E=>k i o C (by simp) E⟩
def Qr5{B:Nat}{b}{w:Bh}{x E n xs o}(h:w.heap[b]?=R (.cells #[E] 241))(G:B<=w)(k:w.ownsRow B 5 1 E n xs)(g:(w.alloc o).grownBy x E.ownBlock):
  (x,oC b #[E] 241)/\KF B b w x:=by
 have ka:=k.alloc o;have F:Lib.OthersKept 5 N w x:=((Lib.OthersKept.refl _ _ _).alloc o).grown g λi C=>by
  rcases ka.2 with⟨rfl,-⟩|⟨g,J,cur,rfl,-,H,-⟩
  ·simp[Da]at C
  simp only[Da,Bt]at C;exact⟨cur,(0,0),by rw[<-C];exact H⟩
 exact⟨Qju (B:=B) h F,Qjb (((Ai B w).alloc G o).grown g (by simp;omega) λi C=>(ka.lt i C).1) F⟩
def Q5h{B n}{w:Bh}{v xs e z}(k:w.ownsRow B e z v n xs):∃q m d,v=A q m d:=by
 rcases k.2 with⟨rfl,-⟩|⟨g,C,cur,rfl,-⟩<;>exact⟨_,_,_,rfl⟩
def Qme:(prog.info? 5).map (λi=>(i.zero,i.size,i.bytes))=R (R (.int .u8 0),1,1):=by kernel_rfl
theorem Q1o(a b):Lib.byteCells (a++b)=Lib.byteCells a++Lib.byteCells b:=by simp[Lib.byteCells]
def Qeq:∀(l:List Int),(∀x∈l,Qyn x)->(Q1f l).length<=30 * l.length
 | [],_=>by simp[Q1f]
 |x::l,h=>by
  have C:=Qeq l λy B=>h y (Aa _ B);have E:=Lib.itoa_length_le x (h x Ae).1 (h x Ae).2;unfold Q1f at *
  rw[Cr,Bo,Br,Br];omega
def Qob{l:List Int}{j:Nat}(h):Q1f (l.take (j+1))=Q1f (l.take j)++32::Lib.itoa l[j]:=by
 unfold Q1f;rw[An h,Dy];simp
def Qbc(B b:Nat)(w:Bh)(bs:List UInt8)(e:Ending)(w':Bh):Prop:=e=.returned (.tuple #[])/\KM B w' b bs/\KF B b w w'
theorem Qp8(w B b bs)(hk:KM B w b bs)(m:B<=b)(p c)(xs:List Int)(x:∀V,KF B b w V->Rd (.slice .int) V [A p xs.length c] xs)(hz:bs.length+30 * xs.length<=100000000000000)(A0:Lib.TabBelow prog B w "internal/strconv.uint64pow10" .u64 Lib.pow10Tab):
  Bv prog 176 #[.pointer (R ⟨b,0,N⟩),A p xs.length c] w (Qbc B b w (bs++Vz xs)):=by
 obtain⟨sv,C,E⟩:=hk;obtain⟨q0,F,G,rfl⟩:=Q5h E;have A1:=(Al.1 C).1;have A2:∀y∈xs,Qyn y:=λy T=>by obtain⟨i,hi,rfl⟩:=Av.1 T;obtain⟨_,_,-,n⟩:=Rd.elem (x w (KF.refl _ _ _)) i hi;exact(At.int n).2
 have AK:xs.length<=100000000000000:=by omega
 have HX:=qh x;have HI:=qh A2;have HZ:=qh hz;have HT:=qh A0;have L:=qh C;have H:=qh E;have U:=Q6 C (o:=0) (v:=A q0 F G) rfl;have AL:=Lib.itoa_length_le (xs.length:Int) (by omega) (by omega);obtain⟨i0,A3,A4,A5,A6⟩:=info_parts Qme;have HB:=D (B<=w.heap.size) (by omega);clear x A2 hz A0 C E;go_enter func176,ntmps176;go_upto_region 1 with((go_at_call 210;(with_reducible refine(Q36 B bs.length (xs.length:Int) (by omega) (by omega) (A q0 F G) w H.o HB.o (by have:=HZ.o;omega) HT.o).mono ?_);rintro e w1 ⟨v1,rfl,O,Y,P⟩;obtain⟨q1,n1,d1,rfl⟩:=Q5h O;have M:=qh (Qju (B:=B) L.o P);have a:=qh (Qjb (b:=b) Y P);have d:=qh O;have c1:=Q6 M.o (o:=0) (v:=A q0 F G) rfl;have f1:w1.frozen? ⟨b,0,N⟩=Bm:=(by simp[World.frozen?,M.o]);clear O Y P))
 refine Qp ?_;intro W1 A7;have HK:=D (KM B W1 b (bs++Lib.itoa xs.length++Q1f (xs.take 0))/\KF B b w W1) (by rw[A7];have h:=Qb9 M.o m (bs:=bs++Lib.itoa xs.length) (by rw[Bo,Q1o];exact d.o);exact⟨by rw[List.take_zero];simpa[Q1f]using h.1,a.o.trans h.2⟩);clear A7 d a M L H U;go_wp2_with fail
 go_loopw [18] (λi wr=>∃j:Nat,j<=xs.length/\i=I Z j/\Hd (KM B wr b (bs++Lib.itoa xs.length++Q1f (xs.take j))/\KF B b w wr)) (λi _=>xs.length-(By i).toNat);case atStart=>exact⟨0,Ak _,rfl,HK.o⟩
 case round=>
  obtain⟨j,J,rfl,f⟩:=hrel;obtain⟨sv,C,E⟩:=f.o.1;obtain⟨q0,F,G,rfl⟩:=Q5h E;have A1:=(Al.1 C).1;have A8:=Qeq (xs.take j) λy T=>HI.o y (List.mem_of_mem_take T);rw[List.length_take]at A8;have W:=D ((bs++Lib.itoa xs.length++Q1f (xs.take j)).length<=130000000000000) (by have:=HZ.o;simp only[Bo];omega);have q:=qh (Qob (l:=xs) (j:=j));have r:=D (xs.length<=j->bs++Lib.itoa xs.length++Q1f (xs.take j)++ [59]=bs++Vz xs) (λh=>by rw[Ao h];simp[Vz]);obtain⟨cs,z⟩:∃cs,bs++Lib.itoa xs.length++Q1f (xs.take j)=cs:=⟨_,rfl⟩;rw[z]at E W r;have AD:=qh z;clear z;have L:=qh C;have H:=qh E;have U:=Q6 C (o:=0) (v:=A q0 F G) rfl;have X:=D (B<=wr.heap.size) (by omega);clear C E A8;by_cases A9:j<xs.length
  ·obtain⟨bb,ob,rfl,n⟩:=Rd.elem (HX.o wr f.o.2) j A9
   obtain⟨g0,s⟩:=At.int n;simp only[Ty.sz,Nat.mul_one]at g0;have gl:=Lib.itoa_length_le xs[j] s.1 s.2;have q:=qh (q.o A9);obtain⟨y,T⟩:∃y,xs[j]=y:=⟨_,rfl⟩;rw[T]at g0 s gl q;obtain⟨AE,AF⟩:=s;clear n T;go_upto_region 5 with(at_builtin;refine wpList_append_own _ rfl _ _ 239 rfl B 5 i0 (.int .u8 0) 1 1 underlying239 A3 A4 A5 A6 rfl (by decide) _ _ _ rfl (H.o.alloc _) ⟨wr.heap.size,0,N⟩ 1 1 [.int .u8 32] rfl rfl (by intro j u' J;match j,J with|0,J=>simp at J;subst J;simp[Addr.add]) (by intro u' g;simp at g;subst g;rfl) (by unfold Bu;have:=W.o;omega) (by have:=W.o;omega) (by have:=X.o;simp;omega) ?_;intro v2 w2 S k _;obtain⟨q2,n2,d2,rfl⟩:=Q5h S;have K:=qh (Qr5 L.o X.o H.o k);have t:=qh S;have c2:=Q6 K.o.1 (o:=0) (v:=A q0 F G) rfl;have f2:w2.frozen? ⟨b,0,N⟩=Bm:=(by simp[World.frozen?,K.o.1]);clear S k U)
   refine Qp ?_;intro u AA;obtain⟨AG,AB⟩:Hd (KM B u b (cs++ [32]))/\Hd (KF B b wr u):=by rw[AA];have h:=Qb9 K.o.1 m (bs:=cs++ [32]) (by rw[Bo,Q1o];exact t.o);exact⟨h.1,K.o.2.trans h.2⟩
   clear AA K t c2 f2 L H;obtain⟨sv,C,E⟩:=AG.o;obtain⟨q0,F,G,rfl⟩:=Q5h E;have A1:=(Al.1 C).1;have L:=qh C;have H:=qh E;have U:=Q6 C (o:=0) (v:=A q0 F G) rfl;have X:=D (B<=u.heap.size) (by omega);clear C E;go_upto_region 6 with((go_at_call 210;(with_reducible refine(Q36 B (cs++ [32]).length y AE AF (A q0 F G) u H.o X.o (by have:=W.o;simp;omega) (HT.o.on (f.o.2.below.trans AB.o.below))).mono ?_);rintro e w1 ⟨v1,rfl,O,Y,P⟩;obtain⟨q1,n1,d1,rfl⟩:=Q5h O;have M:=qh (Qju (B:=B) L.o P);have a:=qh (Qjb (b:=b) Y P);have d:=qh O;have c1:=Q6 M.o (o:=0) (v:=A q0 F G) rfl;have f1:w1.frozen? ⟨b,0,N⟩=Bm:=(by simp[World.frozen?,M.o]);clear O Y P))
   refine Qp ?_;intro W4 AC;obtain⟨AH,AI⟩:Hd (KM B W4 b (cs++ [32]++Lib.itoa y))/\Hd (KF B b wr W4):=by rw[AC];have h:=Qb9 M.o m (bs:=cs++ [32]++Lib.itoa y) (by rw[Bo,Q1o];exact d.o);exact⟨h.1,AB.o.trans (a.o.trans h.2)⟩
   clear AC M a d c1 f1 L H U;go_wp2_with fail
   go_roundw;case rel=>exact⟨j+1,by omega,by go_num,(show Hd (KM B W4 b (bs++Lib.itoa xs.length++Q1f (xs.take (j+1)))/\_)from qh ⟨by rw[q.o,<-Co,AD.o];have h:=AH.o;simpa using h,f.o.2.trans AI.o⟩)⟩
   case measure=>simp[By];omega
  ·have AJ:xs.length<=j:=by omega
   have r:=qh (r.o AJ);go_upto_region 8 with(at_builtin;refine wpList_append_own _ rfl _ _ 239 rfl B 5 i0 (.int .u8 0) 1 1 underlying239 A3 A4 A5 A6 rfl (by decide) _ _ _ rfl (H.o.alloc _) ⟨wr.heap.size,0,N⟩ 1 1 [.int .u8 59] rfl rfl (by intro j u' J;match j,J with|0,J=>simp at J;subst J;simp[Addr.add]) (by intro u' g;simp at g;subst g;rfl) (by unfold Bu;have:=W.o;omega) (by have:=W.o;omega) (by have:=X.o;simp;omega) ?_;intro v2 w2 S k _;obtain⟨q2,n2,d2,rfl⟩:=Q5h S;have K:=qh (Qr5 L.o X.o H.o k);have t:=qh S;have c2:=Q6 K.o.1 (o:=0) (v:=A q0 F G) rfl;have f2:w2.frozen? ⟨b,0,N⟩=Bm:=(by simp[World.frozen?,K.o.1]);clear S k U)
   have h:=Qb9 K.o.1 m (bs:=cs++ [59]) (by rw[Bo,Q1o];exact t.o);go_end0
   exact⟨rfl,by rw[<-r.o];exact h.1,f.o.2.trans (K.o.2.trans h.2)⟩
theorem KM.alloc{B b w bs}(h:KM B w b bs)(o):KM B (w.alloc o) b bs:=
 let ⟨sv,h1,h2⟩:=h;⟨sv,(Az _ _ _ (Al.1 h1).1).trans h1,h2.alloc o⟩
theorem KM.drew{B b w bs}(h:KM B w b bs):KM B w.drew b bs:=h
def Qfj(w:Bh){o}:(w.alloc o).drew.heap[w.heap.size]?=R o:=Bg w o
theorem KM.lt{B b w bs}(h:KM B w b bs):b<w:=let ⟨_,h1,_⟩:=h;(Al.1 h1).1
theorem KF.keep{B b g w x c T fr}(h:KF B b w x)(C:w.heap[g]?=R (.cells c T fr))(E:g≠b)(F:T≠5):x.heap[g]?=R (.cells c T fr):=
 h.rest g _ C (by simpa using E) (by intro c' G e;injection e with _ e _;exact F e)
def Qvi{w}{g:Nat}{T}{l:List Int}(h:w.heap[g]?=R (.cells (l.map (I Z)).toArray T (0,0)))(C:∀x∈l,Qyn x)(E:l.length<=10):Rd (.slice .int) w [A (R (g,0)) l l.length] l:=
 (Qxu.of_block (t:=.int) (B:=0) h (Ak _) rfl (by
  show l.map (I Z)=Qa9 .int l;clear h C E;unfold Qa9;induction l with
  |nil=>rfl
  |cons x l ih=>rw[Cr,<-ih];rfl) (λx F=>C x F) (by unfold Bu;omega)).rd rfl
def Qp6(W B b)(g:Nat)(bs)(l:List Int)(E:KM B W b bs)(F:B<=b)(C:W.heap[g]?=R (.cells (l.map (I Z)).toArray 2 (0,0)))(G:∀x∈l,Qyn x)(H:l.length<=10)(K:bs.length<=90000000000)(J:Lib.TabBelow prog B W "internal/strconv.uint64pow10" .u64 Lib.pow10Tab):Bv prog 176 #[(b,0),A (R (g,0)) l l.length] W (Qbc B b W (bs++Vz l)):=
 Qp8 W B b bs E F _ _ l (λV k=>Qvi (k.keep C (by rintro rfl;obtain⟨_,h,_⟩:=E;rw[h]at C;simp at C) (by decide)) G H) (by omega) J
def Qpt{W}(B b)(g:Nat)(bs)(x y:Int)(C:KM B W b bs)(E:B<=b)(F:W.heap[g]?=R (.cells #[x,y] 2))(G:∀a∈ [x,y],Qyn a)(H:bs.length<=90000000000)(J:Lib.TabBelow prog B W "internal/strconv.uint64pow10" .u64 Lib.pow10Tab):Bv prog 176 #[(b,0),A (R (g,0)) 2 2] W (Qbc B b W (bs++Vz [x,y])):=
 Qp6 W B b g bs [x,y] C E F G (by simp) H J
def Qup{W}(B b)(g:Nat)(bs)(x y z:Int)(C:KM B W b bs)(E:B<=b)(F:W.heap[g]?=R (.cells #[x,y,z] 2))(G:∀a∈ [x,y,z],Qyn a)(H:bs.length<=90000000000)(J:Lib.TabBelow prog B W "internal/strconv.uint64pow10" .u64 Lib.pow10Tab):Bv prog 176 #[(b,0),A (R (g,0)) 3 3] W (Qbc B b W (bs++Vz [x,y,z])):=
 Qp6 W B b g bs [x,y,z] C E F G (by simp) H J
def Qk0{W}(B b)(g:Nat)(bs)(x y z u:Int)(C:KM B W b bs)(E:B<=b)(F:W.heap[g]?=R (.cells #[x,y,z,u] 2))(G:∀a∈ [x,y,z,u],Qyn a)(H:bs.length<=90000000000)(J:Lib.TabBelow prog B W "internal/strconv.uint64pow10" .u64 Lib.pow10Tab):Bv prog 176 #[(b,0),A (R (g,0)) 4 4] W (Qbc B b W (bs++Vz [x,y,z,u])):=
 Qp6 W B b g bs [x,y,z,u] C E F G (by simp) H J
def Q4k(c:Qb):List UInt8:=(Qhb c).flatMap Vz
def Qe1(w:Qxb):List UInt8:=(Qrk w).flatMap Vz
def Q6a(p:Ye):List UInt8:=Vz [pA p,mF (pM p),(mR (pM p)).1,(mR (pM p)).2]
theorem Qhk{α β γ:Type}(f)(g:β->List γ)(l:List α):(l.flatMap f).flatMap g=l.flatMap λx=>(f x).flatMap g:=by
 induction l with
 |nil=>rfl
 |cons x l ih=>simp[ih]
theorem Q6j{p}:Q86 p=Q6a p++(mC (pM p)).flatMap Q4k++(pW p).flatMap Qe1:=by
 unfold Q86 Qvo Q6a;rw[Cr,Dy,Qhk,Qhk,Co];rfl
def Qfr{α β:Type}(f:α->List β)(K:Nat):∀(l:List α),(∀x∈l,(f x)<=K)->(l.flatMap f).length<=l * K
 | [],_=>by simp
 |x::l,h=>by have:=Qfr f K l λy B=>h y (Aa _ B);have:=h x Ae;rw[Cr,Bo,Br,Dv];omega
def Qty(l):l.length<=(Vz l):=by
 have:∀l:List Int,l.length<=(Q1f l):=λl=>by
  induction l with
  |nil=>simp
  |cons x l ih=>unfold Q1f at *;rw[Cr,Bo,Br,Br];omega
 grind[Vz]
theorem Q9p{l}(h:∀x∈l,Qyn x)(B:l.length<=1000000000):(Vz l).length<=30 * l.length+30:=by
 have C:=Qeq l h;have E:=Lib.itoa_length_le (l:Int) (by omega) (by omega);unfold Vz;grind
def Qoh{p j}(h):(Q6a p++((mC (pM p)).take j).flatMap Q4k).length+(Q4k (mC (pM p))[j]).length<=(Q86 p):=by
 have B:=Zz (f:=Q4k) h;grind[Zp,Q6j]
def Qrm{p j}(h):(Q6a p++(mC (pM p)).flatMap Q4k++((pW p).take j).flatMap Qe1).length+(Qe1 (pW p)[j]).length<=(Q86 p):=by
 have B:=Zz (f:=Qe1) h;grind[Zp,Q6j]
def Quy(p):0<(Q86 p).length:=by
 grind[Q6j,Q6a,Vz]
def Qvd(p:Ye)(w:Bh)(e:Ending)(w':Bh):Prop:=e=.returned (.string ⟨(Q86 p).toArray⟩)/\(w,w')
def Qjf{α}(f){ws:List α}{i:Nat}(h:i<ws):((ws.take (i+1)).map f).flatMap Vz=((ws.take i).map f).flatMap Vz++Vz (f ws[i]):=by
 rw[An h,List.map_append,Dy];simp
def Qv3{α:Type}(f)(ws:List α)(i):(((ws.take i).map f).flatMap Vz).length<=((ws.map f).flatMap Vz):=by
 grind[Zp]
theorem Qtu{w}(b0 o0)(p:Ye)(h:At Qv w b0 o0 p)(hz:(Q86 p).length<=80000000000)(B7:Lib.TabIs prog w "internal/strconv.uint64pow10" .u64 Lib.pow10Tab):
  Bv prog 133 #[(b0,o0)] w (Qvd p w):=by
 have HT:=qh (Lib.tabBelow_of_tabIs B7);obtain⟨P,hP⟩:∃P,P=p:=⟨_,rfl⟩;obtain⟨⟨cs,f,⟨rt,ra⟩,xs⟩,J,ac⟩:=p;rw[<-hP]at hz⊢;have BI:=D (Q6a P=Vz [ac,f,rt,ra]) (by rw[hP];rfl);have B8:=D (∀(j:Nat) (h:j<cs),(Q6a P++(cs.take j).flatMap Q4k).length+(Q4k cs[j]).length<=(Q86 P)) (by subst hP;exact λj h=>Qoh (p:=((cs,f,(rt,ra),xs),J,ac)) h);have AJ:=D (∀(j:Nat) (h:j<J),(Q6a P++cs.flatMap Q4k++(J.take j).flatMap Qe1).length+(Qe1 J[j]).length<=(Q86 P)) (by subst hP;exact λj h=>Qrm (p:=((cs,f,(rt,ra),xs),J,ac)) h);have AX:=D (Q86 P=Q6a P++cs.flatMap Q4k++J.flatMap Qe1) (by subst hP;exact Q6j);clear hP B7;have HZ:=qh hz;obtain⟨hm,pk,ck,⟨a5,a6⟩,BJ,k1,k2,F⟩:=h.pool;obtain⟨pc,cc,px,cx,⟨a0,a1,a2,a3,a4⟩,⟨BK,BL,BM⟩,⟨c1,c2,hc⟩,-⟩:=hm.mem;unfold Bu at k2 c2;have HC:=qh hc;have HW:=qh F;have HI:=D (∀x∈ [ac,f,rt,ra],Qyn x) (by intro x C;simp only[List.mem_cons,Cs,or_false]at C;rcases C with rfl|rfl|rfl|rfl<;>assumption);have BN:=Ac w _ a0;simp only at BN;clear h hm hc F hz BJ BK BL BM a4 k1 c1;go_enter func133,ntmps133;go_upto_region 2 with fail
 refine Qp λU B2=> ?_;have G:=D (w,U) (by rw[B2];go_grown);have B3:=D (KM w U w []) (by rw[B2];exact⟨A N 0 0,Bg w _,World.ownsRow_nil _ _ _ _⟩);have d0:=jC G a0;have d1:=jC G a1;have d2:=jC G a2;have d3:=jC G a3;have d5:=jC G a5;have d6:=jC G a6;have B9:=qh a0;have BO:=qh a5;clear B2 a0 a1 a2 a3 a5 a6;have BP:=B3.o.lt;go_still_tail 21,(by kernel_rfl)
 go_wp2_with((go_at_call 176;(with_reducible refine(Qk0 w w U [] ac f rt ra (B3.o.alloc _).drew (Aj _) (Qfj U) HI (by simp) (HT.o.on (G.o.alloc G.o.size _).drew)).mono ?_);rintro e w1 ⟨rfl,F,H⟩;have BA:=D (KM w w1 w (Q6a P++(cs.take 0).flatMap Q4k)) (by rw[BI.o];simpa using F);have B4:=D (KF w w U w1) ((((KF.refl _ _ U).alloc G.o.size _).drew).trans H);have BB:=D (w,w1) (G.o.trans B4.o.below);have e0:=jC BB B9;clear F H))
 clear d0 d1 d2 d3 d5 d6 e0 BP B3;go_loopw [43] (λi wr=>∃j:Nat,j<=cs/\i=I Z j/\Hd (KM w wr w (Q6a P++(cs.take j).flatMap Q4k))/\Hd (KF w w U wr)) (λi _=>cs.length-(By i).toNat);case atStart=>exact⟨0,Ak _,rfl,BA.o,B4.o⟩
 rename Bh=>wo
 obtain⟨j,hj,rfl,O,HF⟩:=hrel;have Y:=qh (G.o.trans HF.o.below);have BC:=O.o.lt;by_cases AA:j<cs
 ·obtain⟨bb,ob,rfl,C⟩:=Rd.elem HC j AA
  have C:At Q4 w bb (ob+j * 5) cs[j]:=C;have s:=B8.o j AA;have A3:=qh (Zz (f:=Q4k) AA);obtain⟨x,AM⟩:∃x,cs[j]=x:=⟨_,rfl⟩;rw[AM]at C s A3;obtain⟨k,l,v,d,ws⟩:=x;obtain⟨pd,cd,pw,cw,⟨f0,f1,f2,f3,f4⟩,⟨i0,i1,i2⟩,⟨d1,d2,hd⟩,⟨BQ,w2,hp⟩⟩:=C.agent;have HD:=qh hd;have HP:=qh hp;have BR:=D (∀x∈ [k,l,v],Qyn x) (by intro x C;simp only[List.mem_cons,Cs,or_false]at C;rcases C with rfl|rfl|rfl<;>assumption);have AN:Q4k (k,l,v,d,ws)=Vz [k,l,v]++Vz d++(ws.map Q3c).flatMap Vz:=by show([aK (k,l,v,d,ws),_,_]::aD (k,l,v,d,ws)::(aW (k,l,v,d,ws)).map Q3c).flatMap Vz=_;rw[Cr,Cr,Co];rfl
  rw[AN]at s A3;obtain⟨K,hK⟩:∃K,Q6a P++(cs.take j).flatMap Q4k=K:=⟨_,rfl⟩;have AO:=qh hK;rw[hK]at O s;have B5:=HZ.o;have A4:=D (K.length+((Vz [k,l,v]).length+(Vz d).length+((ws.map Q3c).flatMap Vz).length)<=80000000000) (by simp only[Bo]at s;omega);have g0:=jC Y f0;have g1:=jC Y f1;have g2:=jC Y f2;have g3:=jC Y f3;have g4:=jC Y f4;unfold Bu at w2;clear C AM i0 i1 i2 hd hp AN hK s B5 f0 f1 f2 f3 f4 d1 d2 BQ;go_upto_region 6 with fail
  refine Qp λW A5=> ?_;have q:=D (W,oC wo.heap.size #[k,l,v,A pd d cd,A pw ws cw] 172) (by rw[A5];exact Bg wo _);have AB:=D (KM w W w K) (by rw[A5];exact O.o.alloc _);have AC:=D (KF w w U W) (by rw[A5];exact HF.o.alloc (by omega) _);have x0:=Q6 q.o (o:=0) (v:=I Z k) rfl;have x1:=Q6 q.o (o:=1) (v:=I Z l) rfl;have x2:=Q6 q.o (o:=2) (v:=I Z v) rfl;have B6:=AB.o.lt;clear A5 g0 g1 g2 g3 g4;go_upto_region 7 with((go_at_call 176;(with_reducible refine(Qup w w W K k l v (AB.o.alloc _) (Aj _) (Bg W _) BR (by have:=A4.o;omega) (HT.o.on ((G.o.trans AC.o.below).alloc (by omega) _))).mono ?_);rintro e w6 ⟨rfl,F,H⟩;have AP:=qh F;have AD:=D (KF w w W w6) (((KF.refl _ _ W).alloc (by omega) _).trans H);clear F H))
  have AE:=qh (AD.o.keep q.o (by omega) (by decide));have AF:=qh (AC.o.trans AD);have AG:=qh (G.o.trans AF.o.below);clear x0 x1 x2;have x3:=Q6 AE (o:=3) (v:=A pd d cd) rfl;go_upto_region 8 with((go_at_call 176;(with_reducible refine(Qp8 _ w w (K++Vz [k,l,v]) AP (Aj _) pd cd d (λV kf=>HD.o.kb (AG.o.trans kf.below)) (by have:=A4.o;have:=Qty d;rw[Bo];omega) (HT.o.on AG)).mono ?_);rintro e w7 ⟨rfl,F,H⟩;have AK:=qh F;have AH:=qh H;clear F H))
  have AL:=qh (AH.o.keep AE (by omega) (by decide));have AI:=qh (AF.o.trans AH);have C3:=qh (G.o.trans AI.o.below);clear x3;have x4:=Q6 AL (o:=4) (v:=A pw ws cw) rfl;obtain⟨M,A6⟩:∃M,K++Vz [k,l,v]++Vz d=M:=⟨_,rfl⟩;rw[A6]at AK;have AQ:=D (M.length+((ws.map Q3c).flatMap Vz).length<=80000000000) (by rw[<-A6];have:=A4.o;simp only[Bo];omega);have AY:=D (Q6a P++(cs.take (j+1)).flatMap Q4k=M++(ws.map Q3c).flatMap Vz) (by rw[A3.o,<-Co,AO.o,<-A6];simp);clear A6 A4 AO A3 q AE AB AC AP AD AF AG AH B6;go_wp2
  go_loopw [61] (λi wr=>∃B:Nat,B<=ws/\i=I Z B/\Hd (KM w wr w (M++((ws.take B).map Q3c).flatMap Vz))/\Hd (KF w w U wr)) (λi _=>ws.length-(By i).toNat);case atStart=>exact⟨0,Ak _,rfl,(show KM _ _ _ _ by simpa using AK.o),AI.o⟩
  obtain⟨B,BD,rfl,X,n⟩:=hrel;have A1:=qh (G.o.trans n.o.below);have BE:=X.o.lt;by_cases AR:B<ws
  ·obtain⟨b2,o2,rfl,u⟩:=Rd.elem HP B AR
   have AS:=Qv3 Q3c ws B;have z:=qh (Qjf Q3c AR);obtain⟨y,hy⟩:∃y,ws[B]=y:=⟨_,rfl⟩;rw[hy]at u z;obtain⟨t,a⟩:=y;obtain⟨b,c,it,ia⟩:=u.word;have AT:=D (∀x∈ [t,a],Qyn x) (by intro x C;simp only[List.mem_cons,Cs,or_false]at C;rcases C with rfl|rfl<;>assumption);have b:=jC A1 b;have c:=jC A1 c;simp only[Ty.sz,Bj]at b c;have A8:=D ((M++((ws.take B).map Q3c).flatMap Vz).length<=80000000000) (by have:=AQ.o;rw[Bo];omega);obtain⟨S,A0⟩:∃S,M++((ws.take B).map Q3c).flatMap Vz=S:=⟨_,rfl⟩;have AU:=D (M++((ws.take (B+1)).map Q3c).flatMap Vz=S++Vz [t,a]) (by rw[z.o,<-A0];simp[Q3c]);rw[A0]at X A8;clear u hy it ia AS A0 z x4;go_upto_region 11 with fail
   refine Qp λT m=> ?_;have r:=D (T,oC wr.heap.size #[t,a] 40) (by rw[m];exact Bg wr _);have A9:=D (KM w T w S) (by rw[m];exact X.o.alloc _);have A2:=D (KF w w U T) (by rw[m];exact n.o.alloc (by omega) _);have x0:=Q6 r.o (o:=0) (v:=I Z t) rfl;have x1:=Q6 r.o (o:=1) (v:=I Z a) rfl;have BF:=A9.o.lt;clear m b c;go_upto_region 12 with((go_at_call 176;(with_reducible refine(Qpt w w T S t a (A9.o.alloc _) (Aj _) (Bg T _) AT (by have:=A8.o;omega) (HT.o.on ((G.o.trans A2.o.below).alloc (by omega) _))).mono ?_);rintro e w9 ⟨rfl,F,H⟩;have AV:=qh F;have AW:=D (KF w w U w9) ((A2.o.alloc (by omega) _).trans H);clear F H))
   go_wp2
   go_roundw;case rel=>exact⟨B+1,by omega,by go_num,(show KM _ _ _ _ by rw[AU.o];exact AV.o),AW.o⟩
   simp[By];omega
  have A7:ws<=B:=by omega
  have HE:=D (Q6a P++(cs.take (j+1)).flatMap Q4k=M++((ws.take B).map Q3c).flatMap Vz) (by rw[AY.o,Ao A7]);go_wp2
  go_roundw;case rel=>exact⟨j+1,by omega,by go_num,(show KM _ _ _ _ by rw[HE.o];exact X.o),n.o⟩
  simp[By];omega
 have A7:cs<=j:=by omega
 have O:=D (KM w wo w (Q6a P++cs.flatMap Q4k)) (by have h:=O.o;rw[Ao A7]at h;exact h);have e5:=jC Y BO;have BS:=AJ;clear B8 HC B9 BA B4 BB;obtain⟨K0,AZ⟩:∃K0,Q6a P++cs.flatMap Q4k=K0:=⟨_,rfl⟩;have AX:=D (Q86 P=K0++J.flatMap Qe1) (by rw[<-AZ];exact AX.o);have AJ:=D (∀(j:Nat) (h:j<J),(K0++(J.take j).flatMap Qe1).length+(Qe1 J[j]).length<=(Q86 P)) (by rw[<-AZ];exact AJ.o);rw[AZ]at O;clear AZ BS;go_wp2
 go_loopw [78] (λi wr=>∃j:Nat,j<=J/\i=I Z j/\Hd (KM w wr w (K0++(J.take j).flatMap Qe1))/\Hd (KF w w U wr)) (λi _=>J.length-(By i).toNat);case atStart=>exact⟨0,Ak _,rfl,(show KM _ _ _ _ by simpa using O.o),HF.o⟩
 clear O HF Y e5 BC;rename Bh=>wp
 obtain⟨j,hj,rfl,O,HF⟩:=hrel;have Y:=qh (G.o.trans HF.o.below);have BC:=O.o.lt;by_cases AA:j<J
 ·obtain⟨bb,ob,rfl,C⟩:=Rd.elem HW j AA
  have C:At Qh w bb (ob+j * 5) J[j]:=C;have s:=AJ.o j AA;have A3:=qh (Zz (f:=Qe1) AA);obtain⟨x,AM⟩:∃x,J[j]=x:=⟨_,rfl⟩;rw[AM]at C s A3;obtain⟨ph,vi,rs,E,ns⟩:=x;obtain⟨pr,cr,pl,cl,pn,cn,⟨f0,f1,f2,f3,f4⟩,⟨i0,i1⟩,⟨r1,r2,hr⟩,⟨l1,l2,hl⟩,⟨n1,n2,hn⟩⟩:=C.worker;unfold Bu at r2 l2;have HR:=qh hr;have HL:=qh hl;have HN:=qh hn;have BT:=D (∀x∈ [ph,vi,(rs:Int),(E:Int)],Qyn x) (by intro x C;simp only[List.mem_cons,Cs,or_false]at C;rcases C with rfl|rfl|rfl|rfl<;>first|assumption|(unfold Qyn;omega));have AN:Qe1 (ph,vi,rs,E,ns)=Vz [ph,vi,(rs:Int),(E:Int)]++Vz ns++(rs.map Q3c).flatMap Vz++(E.map Q3q).flatMap Vz:=by show(_::_::(rs.map Q3c++E.map Q3q)).flatMap Vz=_;rw[Cr,Cr,Dy];simp only[Co];rfl
  rw[AN]at s A3;obtain⟨K,hK⟩:∃K,K0++(J.take j).flatMap Qe1=K:=⟨_,rfl⟩;have AO:=qh hK;rw[hK]at O s;have B5:=HZ.o;have A4:=D (K.length+((Vz [ph,vi,(rs:Int),(E:Int)]).length+(Vz ns).length+((rs.map Q3c).flatMap Vz).length+((E.map Q3q).flatMap Vz).length)<=80000000000) (by simp only[Bo]at s;omega);have g0:=jC Y f0;have g1:=jC Y f1;have g2:=jC Y f2;have g3:=jC Y f3;have g4:=jC Y f4;clear C AM i0 i1 hr hl hn AN hK s B5 f0 f1 f2 f3 f4 r1 l1 n1 n2;go_upto_region 17 with fail
  refine Qp λW A5=> ?_;have q:=D (W,oC wp.heap.size #[ph,vi,A pr rs cr,A pl E cl,A pn ns cn] 116) (by rw[A5];exact Bg wp _);have AB:=D (KM w W w K) (by rw[A5];exact O.o.alloc _);have AC:=D (KF w w U W) (by rw[A5];exact HF.o.alloc (by omega) _);have x0:=Q6 q.o (o:=0) (v:=I Z ph) rfl;have x1:=Q6 q.o (o:=1) (v:=I Z vi) rfl;have x2:=Q6 q.o (o:=2) (v:=A pr rs cr) rfl;have x3:=Q6 q.o (o:=3) (v:=A pl E cl) rfl;have B6:=AB.o.lt;clear A5 g0 g1 g2 g3 g4;go_upto_region 18 with((go_at_call 176;(with_reducible refine(Qk0 w w W K ph vi rs E (AB.o.alloc _) (Aj _) (Bg W _) BT (by have:=A4.o;omega) (HT.o.on ((G.o.trans AC.o.below).alloc (by omega) _))).mono ?_);rintro e w6 ⟨rfl,F,H⟩;have AP:=qh F;have AD:=D (KF w w W w6) (((KF.refl _ _ W).alloc (by omega) _).trans H);clear F H))
  have AE:=qh (AD.o.keep q.o (by omega) (by decide));have AF:=qh (AC.o.trans AD);have AG:=qh (G.o.trans AF.o.below);clear x0 x1 x2 x3;have x4:=Q6 AE (o:=4) (v:=A pn ns cn) rfl;go_upto_region 19 with((go_at_call 176;(with_reducible refine(Qp8 _ w w (K++Vz [ph,vi,(rs:Int),(E:Int)]) AP (Aj _) pn cn ns (λV kf=>HN.o.kb (AG.o.trans kf.below)) (by have:=A4.o;have:=Qty ns;rw[Bo];omega) (HT.o.on AG)).mono ?_);rintro e w7 ⟨rfl,F,H⟩;have AK:=qh F;have AH:=qh H;clear F H))
  have AL:=qh (AH.o.keep AE (by omega) (by decide));have AI:=qh (AF.o.trans AH);clear x4;have x2:=Q6 AL (o:=2) (v:=A pr rs cr) rfl;have C4:=(Al.1 AL).1;have BU:=D (wp.heap.size≠w) (by omega);obtain⟨M,A6⟩:∃M,K++Vz [ph,vi,(rs:Int),(E:Int)]++Vz ns=M:=⟨_,rfl⟩;rw[A6]at AK;have AQ:=D (M.length+((rs.map Q3c).flatMap Vz).length+((E.map Q3q).flatMap Vz).length<=80000000000) (by rw[<-A6];have:=A4.o;simp only[Bo];omega);have AY:=D (K0++(J.take (j+1)).flatMap Qe1=M++(rs.map Q3c).flatMap Vz++(E.map Q3q).flatMap Vz) (by rw[A3.o,<-Co,AO.o,<-A6];simp);clear A6 A4 AO A3 q AE AB AC AP AD AF AG AH B6 O HF Y HW AJ;go_wp2
  go_loopw [100] (λi wr=>∃B:Nat,B<=rs/\i=I Z B/\Hd (KM w wr w (M++((rs.take B).map Q3c).flatMap Vz))/\Hd (KF w w w7 wr)) (λi _=>rs.length-(By i).toNat);case atStart=>exact⟨0,Ak _,rfl,(show KM _ _ _ _ by simpa using AK.o),KF.refl _ _ _⟩
  clear x2;rename Bh=>w8
  obtain⟨B,BD,rfl,X,n⟩:=hrel;have A1:=qh (G.o.trans (AI.o.trans n.o).below);have BE:=X.o.lt;by_cases AR:B<rs
  ·obtain⟨b2,o2,rfl,u⟩:=Rd.elem HR B AR
   have AS:=Qv3 Q3c rs B;have z:=qh (Qjf Q3c AR);obtain⟨y,hy⟩:∃y,rs[B]=y:=⟨_,rfl⟩;rw[hy]at u z;obtain⟨t,a⟩:=y;obtain⟨b,c,it,ia⟩:=u.word;have AT:=D (∀x∈ [t,a],Qyn x) (by intro x C;simp only[List.mem_cons,Cs,or_false]at C;rcases C with rfl|rfl<;>assumption);have b:=jC A1 b;have c:=jC A1 c;simp only[Ty.sz,Bj]at b c;have A8:=D ((M++((rs.take B).map Q3c).flatMap Vz).length<=80000000000) (by have:=AQ.o;rw[Bo];omega);obtain⟨S,A0⟩:∃S,M++((rs.take B).map Q3c).flatMap Vz=S:=⟨_,rfl⟩;have AU:=D (M++((rs.take (B+1)).map Q3c).flatMap Vz=S++Vz [t,a]) (by rw[z.o,<-A0];simp[Q3c]);rw[A0]at X A8;clear u hy it ia AS A0 z;go_upto_region 22 with fail
   refine Qp λT m=> ?_;have r:=D (T,oC w8.heap.size #[t,a] 143) (by rw[m];exact Bg w8 _);have A9:=D (KM w T w S) (by rw[m];exact X.o.alloc _);have A2:=D (KF w w w7 T) (by rw[m];exact n.o.alloc (by omega) _);have x0:=Q6 r.o (o:=0) (v:=I Z t) rfl;have x1:=Q6 r.o (o:=1) (v:=I Z a) rfl;have BF:=A9.o.lt;clear m b c;go_upto_region 23 with((go_at_call 176;(with_reducible refine(Qpt w w T S t a (A9.o.alloc _) (Aj _) (Bg T _) AT (by have:=A8.o;omega) (HT.o.on ((G.o.trans (AI.o.trans A2).below).alloc (by omega) _))).mono ?_);rintro e w9 ⟨rfl,F,H⟩;have AV:=qh F;have AW:=D (KF w w w7 w9) ((A2.o.alloc (by omega) _).trans H);clear F H))
   go_wp2
   go_roundw;case rel=>exact⟨B+1,by omega,by go_num,(show KM _ _ _ _ by rw[AU.o];exact AV.o),AW.o⟩
   simp[By];omega
  have A7:rs<=B:=by omega
  obtain⟨K4,B0⟩:∃K4,M++(rs.map Q3c).flatMap Vz=K4:=⟨_,rfl⟩;have BV:=D (KM w w8 w K4) (by have h:=X.o;rw[Ao A7,B0]at h;exact h);have BW:=D (K4.length+((E.map Q3q).flatMap Vz).length<=80000000000) (by rw[<-B0];have:=AQ.o;simp only[Bo];omega);have BX:=D (K0++(J.take (j+1)).flatMap Qe1=K4++(E.map Q3q).flatMap Vz) (by rw[<-B0];exact AY.o);have r:=qh (n.o.keep AL BU (by decide));have A2:=qh (AI.o.trans n.o);have x3:=Q6 r.o (o:=3) (v:=A pl E cl) rfl;clear B0 X n AQ AY AL AI AK HR;go_wp2
  go_loopw [114] (λi wr=>∃B:Nat,B<=E/\i=I Z B/\Hd (KM w wr w (K4++((E.take B).map Q3q).flatMap Vz))/\Hd (KF w w U wr)) (λi _=>E.length-(By i).toNat);case atStart=>exact⟨0,Ak _,rfl,(show KM _ _ _ _ by simpa using BV.o),A2.o⟩
  clear x3;obtain⟨B,BD,rfl,X,n⟩:=hrel;have A1:=qh (G.o.trans n.o.below);have BE:=X.o.lt;by_cases BG:B<E
  ·obtain⟨b2,o2,rfl,u⟩:=Rd.elem HL B BG
   have AS:=Qv3 Q3q E B;have z:=qh (Qjf Q3q BG);obtain⟨y,hy⟩:∃y,E[B]=y:=⟨_,rfl⟩;rw[hy]at u z;obtain⟨⟨t,a⟩,⟨t',a'⟩⟩:=y;obtain⟨⟨b,c,m2,m3⟩,it,ia,BY,BZ⟩:=u.link;have AT:=D (∀x∈ [t,a,t',a'],Qyn x) (by intro x C;simp only[List.mem_cons,Cs,or_false]at C;rcases C with rfl|rfl|rfl|rfl<;>assumption);have b:=jC A1 b;have c:=jC A1 c;have m2:=jC A1 m2;have m3:=jC A1 m3;simp only[Ty.sz,Bj]at b c m2 m3;have A8:=D ((K4++((E.take B).map Q3q).flatMap Vz).length<=80000000000) (by have:=BW.o;rw[Bo];omega);obtain⟨S,A0⟩:∃S,K4++((E.take B).map Q3q).flatMap Vz=S:=⟨_,rfl⟩;have AU:=D (K4++((E.take (B+1)).map Q3q).flatMap Vz=S++Vz [t,a,t',a']) (by rw[z.o,<-A0];simp[Q3q]);rw[A0]at X A8;clear u hy it ia BY BZ AS A0 z;go_upto_region 27 with fail
   refine Qp λT m=> ?_;have r:=D (T,oC wr.heap.size #[t,a,t',a'] 146) (by rw[m];exact Bg wr _);have A9:=D (KM w T w S) (by rw[m];exact X.o.alloc _);have A2:=D (KF w w U T) (by rw[m];exact n.o.alloc (by omega) _);have x0:=Q6 r.o (o:=0) (v:=I Z t) rfl;have x1:=Q6 r.o (o:=1) (v:=I Z a) rfl;have x2:=Q6 r.o (o:=2) (v:=I Z t') rfl;have x3:=Q6 r.o (o:=3) (v:=I Z a') rfl;have BF:=A9.o.lt;clear m b c m2 m3;go_upto_region 28 with((go_at_call 176;(with_reducible refine(Qk0 w w T S t a t' a' (A9.o.alloc _) (Aj _) (Bg T _) AT (by have:=A8.o;omega) (HT.o.on ((G.o.trans A2.o.below).alloc (by omega) _))).mono ?_);rintro e w9 ⟨rfl,F,H⟩;have AV:=qh F;have AW:=D (KF w w U w9) ((A2.o.alloc (by omega) _).trans H);clear F H))
   go_wp2
   go_roundw;case rel=>exact⟨B+1,by omega,by go_num,(show KM _ _ _ _ by rw[AU.o];exact AV.o),AW.o⟩
   simp[By];omega
  have A7:E<=B:=by omega
  have HE:=D (K0++(J.take (j+1)).flatMap Qe1=K4++((E.take B).map Q3q).flatMap Vz) (by rw[BX.o,Ao A7]);go_wp2
  go_roundw;case rel=>exact⟨j+1,by omega,by go_num,(show KM _ _ _ _ by rw[HE.o];exact X.o),n.o⟩
  simp[By];omega
 have A7:J<=j:=by omega
 have O:=D (KM w wp w (Q86 P)) (by have h:=O.o;rw[Ao A7]at h;rw[AX.o];exact h);obtain⟨sv,h0,B1⟩:=O.o;have C0:=qh (G.o.trans HF.o.below);have BH:=qh (Quy P);obtain⟨L,hL⟩:∃L,Q86 P=L:=⟨_,rfl⟩;rw[hL]at B1 BH;have C1:=qh hL;have c0:=Q6 h0 (o:=0) (v:=sv) rfl;have HO:=qh B1;clear hL h0 HZ AX AJ O;rcases B1.2 with⟨-,h⟩|⟨g,C2,cur,rfl,-⟩
 ·have:=BH.o;omega
 have C5:=run_convert_bytes_back (P:=prog) wp 239 9 5 (g,0) C2 L underlying239 underlying5 underlying9 (λj hj=>HO.o.cells (g:=g) rfl j _ (by simp[Lib.byteCells,hj]));clear B1;go_wp2
 go_ret;exact⟨by rw[C1.o]<;>rfl,C0.o⟩
def Q8c{w}(a b c d:Int):Bv prog 292 #[.agg #[a,b],.agg #[c,d]] w (oR w (Vm (a,b) (c,d))):=by
 go_enter func292,ntmps292;go_wp2;all_goals(go_ret;exact⟨Q2 (by simp_all[Vm]),by go_grown⟩)
def Qeo{w p c}{n:List Qb}{a s:Int}(h:Rd (.slice Q4) w [A p n c] n)(L:n<=Bu):
  Bv prog 208 #[A p n c,.agg #[a,s]] w (oR w (Q12 n (a,s))):=by
 unfold Bu at L;have H:=qh h;clear h;by_cases q0:0<=a;rotate_left
 ·have M:decide (0<=a)=Bm:=by simpa using q0
  have B:=D (Q12 n (a,s)=Bm) (by have:Qxi a 0 ((n:Int)-1)=Bm:=Q13.2 (by omega);simp only[Q12,this,Ct]);go_enter func208,ntmps208;go_wp2
  go_quiet(fail)
  go_wp2;go_ret;exact⟨Q2 B.o.symm,Q8 (by go_grown) _⟩
 by_cases q1:a<n;rotate_left
 ·have M:decide (0<=a)=Bn:=by simpa using q0
  have O:decide (a<(n:Int))=Bm:=by simpa using q1
  have B:=D (Q12 n (a,s)=Bm) (by have:Qxi a 0 ((n:Int)-1)=Bm:=Q13.2 (by omega);simp only[Q12,this,Ct]);go_enter func208,ntmps208;go_wp2
  go_quiet(fail)
  go_wp2;go_ret;exact⟨Q2 B.o.symm,Q8 (by go_grown) _⟩
 have J:a.toNat<n:=by omega
 obtain⟨O,b,rfl,G⟩:=Rd.elem H a.toNat J;generalize hx:n[a.toNat]=x at G;obtain⟨k,l,v,d,ws⟩:=x;obtain⟨f,g,i,j,⟨P,S,T,U,K⟩,-,-,⟨w1,w2,-⟩⟩:=G.agent;unfold Bu at w2;have V:=qh hx;simp only[Ty.sz,Bj]at K;have W:=Ac w _ K;simp only at W;clear G hx H P S T U;have B:=D (Q12 n (a,s)=(decide (0<=s) && decide (s<ws))) (by
  have:Qxi a 0 ((n:Int)-1)=Bn:=Qj.2 (by omega);simp only[Q12,this,Ea,Q7,Qy J,V.o,aW,Qxi];have:decide (s<=(ws:Int)-1)=decide (s<(ws:Int)):=by rw[decide_eq_decide];omega
  rw[this,show decide (0<=a)=Bn by simpa using q0,show decide (a<=(n:Int)-1)=Bn by simp;omega];rfl)
 have m:decide (0<=a)=Bn:=by simpa using q0
 have o:decide (a<(n:Int))=Bn:=by simpa using q1
 by_cases E:0<=s;rotate_left
 ·have X:decide (0<=s)=Bm:=by simpa using E
  have C:=D ((decide (0<=s) && decide (s<(ws:Int)))=Bm) (by simp[E]);go_enter func208,ntmps208;go_wp2
  go_quiet(fail)
  go_wp2;go_ret;exact⟨Q2 (by rw[B.o,C.o]),Q8 (by go_grown) _⟩
 have X:decide (0<=s)=Bn:=by simpa using E
 by_cases F:s<ws
 ·have Y:decide (s<(ws:Int))=Bn:=by simpa using F
  have C:=D ((decide (0<=s) && decide (s<(ws:Int)))=Bn) (by simp[E,F]);go_enter func208,ntmps208;go_wp2
  go_quiet(fail)
  go_wp2;go_ret;exact⟨Q2 (by rw[B.o,C.o]),Q8 (by go_grown) _⟩
 have Y:decide (s<(ws:Int))=Bm:=by simpa using F
 have C:=D ((decide (0<=s) && decide (s<(ws:Int)))=Bm) (by simp[F]);go_enter func208,ntmps208;go_wp2
 go_quiet(fail)
 go_wp2;go_ret;exact⟨Q2 (by rw[B.o,C.o]),Q8 (by go_grown) _⟩
def Qce(w b o)(n:List Qb)(h:At Jl w b o n)(a s:Int)(j:0<=a)(m:a<n)(p:0<=s)(C:s<(aW (Q7 n a))):
  Bv prog 207 #[(b,o),.agg #[a,s]] w (oR w (.agg #[I Z (Qe n (a,s)).1,I Z (Qe n (a,s)).2])):=by
 obtain⟨q,r,F,-,-,K⟩:=h.net;have L:a.toNat<n:=by omega
 obtain⟨t,u,rfl,M⟩:=Rd.elem K a.toNat L;have G:Q7 n a=n[a.toNat]:=Qy L;rw[G]at C;generalize hx:n[a.toNat]=x at *
 obtain⟨k,l,v,d,ws⟩:=x;obtain⟨z,cd,pw,cw,⟨-,-,-,-,E⟩,-,-,⟨-,-,O⟩⟩:=M.agent;have C:s<ws:=C;have P:s.toNat<ws:=by omega
 obtain⟨b2,o2,rfl,S⟩:=Rd.elem O s.toNat P;have W:=D (Qe n (a,s)=ws[s.toNat]) (by unfold Qe;rw[G];show ws.getD s.toNat (0,0)=_;rw[Ab,Ad P];rfl);generalize ws[s.toNat]=y at *
 obtain⟨T,U⟩:=y;obtain⟨f0,f1,-,-⟩:=S.word;simp only[Ty.sz,Bj]at f0 f1 E;have X:=Ac w _ F;have Y:=Ac w _ E;have c:=Ac w _ f0;simp only at X Y c;clear h K M O S G hx;go_enter func207,ntmps207;go_upto_region 1 with fail
 refine Qp λH J=> ?_;have B:=D (w,H) (by rw[J];go_grown);obtain⟨f,V⟩:Hd (H,oC w.heap.size #[a,s] 207)/\Hd (H,oC (w.heap.size+1) #[(),()] 207):=by rw[J];exact⟨(Jt w _ _ _ _).1,(Jt w _ _ _ _).2⟩
 clear J;obtain⟨⟨p0,p1⟩,-⟩:=Zj f.o;obtain⟨⟨r0,r1⟩,rf⟩:=Zj V;have F:=jC B F;have E:=jC B E;have f0:=jC B f0;have f1:=jC B f1;have C:s<ws:=by omega
 go_still_tail 13,(by kernel_rfl)
 go_wp2_with fail
 obtain⟨⟨g,i⟩,-⟩:=Zj (Vs V T U);refine bodyPost_ret (v:=.agg #[T,U]) (by simp[results,results207,go_sem,g,i]) rfl ⟨by rw[W.o], ?_⟩;exact(Qe2 B (Nat.le_succ _)).drew
def Qe7(k f):V4 k f=if(k==9 && Qxi f 0 3)then f+1 else if(!(Q28 k)||k==9||f !=0)then 0 else
  (if k==1||k==5||k==6||k==12 then 1 else if k==8||k==10||k==11 then 2 else 3):=by
 unfold V4;by_cases h:Q28 k=Bn
 ·rcases Q9d h with rfl|rfl|rfl|rfl|rfl|rfl|rfl|rfl|rfl|rfl|rfl|rfl<;>simp[h]<;>(try(split<;>omega))
 have F:¬(1<=k/\k<=12):=λC=>h (Qj.2 C);have E:Q28 k=Bm:=by simpa using h
 have B:∀j:Int,1<=j->j<=12->(k==j)=Bm:=λj B G=>by rw[beq_eq_false_iff_ne];omega
 simp[E,B]
def Qa7(j v:Int)(h:∀w:Bh,(Instr.index 279 (.agg #[(),I Z 1,I Z 3,I Z 3,I Z 3,I Z 1,I Z 1,I Z 3,I Z 2,(),I Z 2,I Z 2,I Z 1]) j).run prog w=.ok v w):∀w:Bh,(Instr.index 279 (.agg #[(),I Z 1,I Z 3,I Z 3,I Z 3,I Z 1,I Z 1,I Z 3,I Z 2,(),I Z 2,I Z 2,I Z 1]) j).run prog w=.ok v w:=h
def Vo{w}{k f:Int}:Bv prog 195 #[k,f] w λe w'=>e=.returned (V4 k f)/\w=w':=by
 by_cases h:(k==9 && Qxi f 0 3)=Bn
 ·simp only[Bi,beq_iff_eq]at h
  obtain⟨rfl,G⟩:=h;have C:=Qj.1 G;obtain⟨S,T⟩:=C;have E:=qh (Qe7 9 f);have M:=qh G;clear G;go_enter func195,ntmps195;go_wp2;go_ret;exact⟨Qt (by rw[E.o];simp[M.o]),rfl⟩
 have E:=qh (Qe7 k f);by_cases F:k=9
 ·subst F
  have F:¬(0<=f/\f<=3):=λO=>h (by simp[Qj.2 O]);have U:Q28 9=Bn:=rfl;have H:=qh h;clear h;go_enter func195,ntmps195;go_wp2_with(go_at_call 228;refine jX (Q1h) ?_)
  all_goals(go_ret;exact⟨Qt (by rw[E.o,if_neg H,if_pos (by simp)]),rfl⟩)
 by_cases J:Q28 k=Bn
 ·by_cases C:f=0
  ·have K:(f !=0)=Bm:=by simp[C]
   have L:=qh F;have H:=qh h;clear h;rcases Q9d J with rfl|rfl|rfl|rfl|rfl|rfl|rfl|rfl|rfl|rfl|rfl|rfl
   all_goals first
    |(exact absurd rfl L)
    |skip
   have B:=Qa7 1 1 λ_=>by kernel_rfl
   rotate_left;have B:=Qa7 2 3 λ_=>by kernel_rfl
   rotate_left;have B:=Qa7 3 3 λ_=>by kernel_rfl
   rotate_left;have B:=Qa7 4 3 λ_=>by kernel_rfl
   rotate_left;have B:=Qa7 5 1 λ_=>by kernel_rfl
   rotate_left;have B:=Qa7 6 1 λ_=>by kernel_rfl
   rotate_left;have B:=Qa7 7 3 λ_=>by kernel_rfl
   rotate_left;have B:=Qa7 8 2 λ_=>by kernel_rfl
   rotate_left;have B:=Qa7 10 2 λ_=>by kernel_rfl
   rotate_left;have B:=Qa7 11 2 λ_=>by kernel_rfl
   rotate_left;have B:=Qa7 12 1 λ_=>by kernel_rfl
   rotate_left
   all_goals
    subst C;clear L F;go_enter func195,ntmps195;go_wp2_with(go_at_call 228;refine jX (Q1h) ?_)
    go_ret;exact⟨Qt (by rw[E.o];rfl),rfl⟩
  have K:(f !=0)=Bn:=by simp[C]
  have H:=qh h;have V:=qh C;clear h C;go_enter func195,ntmps195;go_wp2_with(go_at_call 228;refine jX (Q1h) ?_)
  all_goals(go_ret;exact⟨Qt (by rw[E.o,if_neg H,if_pos (by simp[K])]),rfl⟩)
 have P:Q28 k=Bm:=by simpa using J
 have H:=qh h;clear h;go_enter func195,ntmps195;go_wp2_with(go_at_call 228;refine jX (Q1h) ?_)
 all_goals(go_ret;exact⟨Qt (by rw[E.o,if_neg H,if_pos (by simp[P])]),rfl⟩)
def Rd.agentV{w vs}{k l v:Int}{d:List Int}{ws:List Wd}(h:Rd Q4 w vs (k,l,v,d,ws)):
  ∃(E:Option Addr) (B:Nat) (F:Option Addr) (C:Nat),vs=[I Z k,I Z l,I Z v,A E d B,A F ws C]/\(Qyn k/\Qyn l/\Qyn v)/\(d<=B/\d<=Bu/\Rd (.slice .int) w [A E d B] d)/\(ws<=C/\ws<=Bu/\Rd (.slice Q5) w [A F ws C] ws):=by
 obtain⟨_,_,rfl,⟨rfl,J⟩,_,_,rfl,⟨rfl,K⟩,_,_,rfl,⟨rfl,L⟩,_,_,rfl,G,H⟩:=h;obtain⟨E,B,rfl,M,O,G⟩:=Jh G;obtain⟨F,C,rfl,w1,w2,H⟩:=Jh H;exact⟨E,B,F,C,rfl,⟨J,K,L⟩,⟨M,O,G⟩,⟨w1,w2,H⟩⟩
def Vp{w}{k:Int}{n:Nat}(B:n<=2 ^ 63-1):Bv prog 196 #[k,n] w λe w'=>e=.returned (Q03 k n)/\w=w':=by
 have C:(0:Int)<=n:=by omega
 have E:(n:Int)<=9223372036854775807:=by omega
 go_enter func196,ntmps196;go_wp2;all_goals(go_ret;exact⟨Qt (by simp_all[Q03]),rfl⟩)
def Qta(w)(k:Int):Bv prog 198 #[k] w (oR w (!Q3p k)):=by
 go_enter func198,ntmps198;go_wp2_with(go_at_call 199;refine jX (Qle) ?_)
 go_ret;exact⟨rfl,Ai _ _⟩
theorem Qew{w}(vs){x:Qb}(h:Rd Q4 w vs x):
  Bv prog 164 #[.agg vs.toArray] w λe w'=>e=.returned (.bool (Yb x))/\(w,w'):=by
 obtain⟨k,l,v,d,ws⟩:=x;obtain⟨J,K,V,X,rfl,-,⟨d1,q,Y⟩,⟨-,w2,-⟩⟩:=h.agentV;unfold Bu at q w2;have a:=D (∀W,Bp w w W->Rd (.slice .int) W [A J d K] d) (λW B=>Y.kb B);clear h Y;generalize hP:V4 k (Q03 k ws)=P;have F:=qh hP;have L:=D (Yb (k,l,v,d,ws)=(decide (0<P) && ((ws:Int)==P) && Zm k l && Zd k v d)) (by rw[<-hP];rfl);clear hP;go_enter func164,ntmps164;go_upto_region 1 with fail
 refine Qp λC M=> ?_;have O:=D (w,C) (by rw[M];go_grown);have b:=D (∀W,Bp C C W->(W,w.heap.size,0,I Z k)/\(W,w.heap.size,1,I Z l)/\(W,w.heap.size,2,I Z v)/\(W,w.heap.size,3,A J d K)/\(W,w.heap.size,4,A V ws X)) (by intro W B;have B:=Am B;rw[M]at B;have h:=Bg w (.cells #[I Z k,I Z l,I Z v,A J d K,A V ws X] 153);refine⟨?_, ?_, ?_, ?_, ?_⟩<;>exact B.cell _ _ (Q6 h rfl));obtain⟨r,s,t,u,y⟩:=b.o C (Ai _ _);clear M;rcases Qx0 (!((ws:Int)==0)) (!(P !=(ws:Int))) (Zm k l)with q0|⟨q0,q1⟩|⟨q0,q1,q2⟩|⟨q0,q1,q2⟩;rotate_left 3
 ·have q0:((ws:Int)==0)=Bm:=by simpa using q0
  have q1:(P !=(ws:Int))=Bm:=by simpa using q1
  have G:=D ((decide (0<P) && ((ws:Int)==P) && Zm k l && Zd k v d)=Zd k v d) (by
   have c:P=ws:=by simpa using q1
   have f:ws.length≠0:=by simpa using q0
   rw[q2,c,show decide (0<(ws:Int))=Bn by simp;omega];simp)
  have z:=D (Vw prog 198) (by intro _ _;kernel_rfl);have A0:=D (∀(W:Bh),∀(E:Bh) (x:Ty.int.den),x∈d->Bp W W E->Bv prog 198 (#[I Z x]++ #[]) E λe w'=>e=.returned (.bool (!Q3p x))/\(E,w')) (λ_ E x _ _=>Qta E x);obtain⟨S,T⟩:∃S,S=d.any λx=> !Q3p x:=⟨_,rfl⟩;have A1:=qh T.symm;have g:=D (d.all Q3p= !S) (by rw[T,List.not_any_eq_all_not];congr 1;funext x;simp);clear T;have A2:=D (∀H,H=v->Yb (k,l,H,d,ws)=Zd k H d) (λH e=>by rw[e,L.o,G.o]);by_cases i:k=8;rotate_left;have A5:(k==8)=Bm:=by simpa using i
  rotate_left;subst i;by_cases U:d.length=1;have A3:((d:Int)==1)=Bn:=by simp[U]
  have j:0<d.length:=by omega
  have A4:=D (d[0]=d.getD 0 0) (by simp[List.getD_eq_getElem?_getD,j]);have A6:(0:Int)<d:=by omega
  clear U;rotate_left;have A3:((d:Int)==1)=Bm:=by simp;omega
  clear U
  all_goals
   go_quiet(first|(go_at_call 196;first|exact Yt (Qxq (Vp w2)) (rfl)|exact Yv (Qxq (Vp w2)) (rfl))|(go_at_call 195;first|exact Yt (Qxq (Vo)) (by rw[F.o])|exact Yv (Qxq (Vo)) (by rw[F.o]))|(go_at_call 197;first|exact Yt (Qxq (V0)) (Qxz q2)|exact Yv (Qxq (V0)) (Qxz q2)))
   go_wp2;go_quiet(fail)
   go_upto_region 5 with((go_at_call 160;(with_reducible refine jR (Q24 d (λx=> !Q3p x) (a.o _ (Q8 O _)) z.o (A0.o _)) λw1 B=> ?_);have m:=D (C,w1) (Q0 (Q8 (Ai _ _) _) B);clear B))
   have n:=D (w,w1) (Q0 O m.o);obtain⟨r,s,t,u,y⟩:=b.o w1 m.o;rw[A1.o]
  any_goals
   obtain⟨bd,od,rfl,o⟩:=Rd.elem (a.o _ n.o) 0 j;obtain⟨p,-⟩:=At.int o;simp only[Ty.sz,Nat.zero_mul,Nat.add_zero]at p;rw[A4.o]at p;clear o
  all_goals go_wp2_with(first|(go_at_call 200;refine jX (Qr6) ?_)|(go_at_call 201;refine jX (Q7p) ?_)|(go_at_call 199;refine jX (Qle) ?_))
  all_goals(go_ret;exact⟨Q2 (by(first|rw[L.o,G.o]|rw[A2.o 0 (by omega)]);(first|(simp_all[Zd,g.o,Qxi];done)|(simp_all[Zd,g.o,Qxi];omega))),n.o⟩)
 all_goals
  have G:=D ((decide (0<P) && ((ws:Int)==P) && Zm k l && Zd k v d)=Bm) (by
   first
    |(have f:(ws:Int)=0:=by simpa using q0
      rw[f];by_cases hp:0<P
      ·rw[show((0:Int)==P)=Bm by simp;omega];simp
      simp[hp])
    |(have c:P≠ws:=by simpa using q1
      rw[show((ws:Int)==P)=Bm by simp;omega];simp)
    |(rw[q2];simp))
  first|have q0:((ws:Int)==0)=Bn:=by simpa using q0|have q0:((ws:Int)==0)=Bm:=by simpa using q0
  first|have q1:(P !=(ws:Int))=Bn:=by simpa using q1|have q1:(P !=(ws:Int))=Bm:=by simpa using q1|skip
  go_quiet(first|(go_at_call 196;first|exact Yt (Qxq (Vp w2)) (rfl)|exact Yv (Qxq (Vp w2)) (rfl))|(go_at_call 195;first|exact Yt (Qxq (Vo)) (by rw[F.o])|exact Yv (Qxq (Vo)) (by rw[F.o]))|(go_at_call 197;first|exact Yt (Qxq (V0)) (by first|exact Qxz q2|rfl)|exact Yv (Qxq (V0)) (by first|exact Qxz q2|rfl)))
  go_wp2;go_ret;exact⟨Q2 (by rw[L.o,G.o]),Q8 O _⟩
def Q11(w:Bh)(a b c d e T):(w.alloc (.cells #[a,b,c,d,e] T)).cell? (w,0)=R a/\(w.alloc (.cells #[a,b,c,d,e] T)).cell? (w,1)=R b/\(w.alloc (.cells #[a,b,c,d,e] T)).cell? (w,2)=R c/\(w.alloc (.cells #[a,b,c,d,e] T)).cell? (w,3)=R d/\(w.alloc (.cells #[a,b,c,d,e] T)).cell? (w,4)=R e:=
 have h:=Bg w (.cells #[a,b,c,d,e] T);⟨Q6 h rfl,Q6 h rfl,Q6 h rfl,Q6 h rfl,Q6 h rfl⟩
def At.rdv{w b o}{k l v:Int}{d:List Int}{ws:List Wd}{E F G H}(h:At Q4 w b o (k,l,v,d,ws))(B:w.cell? (b,o+3)=R (A E d G))(C:w.cell? (b,o+4)=R (A F ws H)):Rd Q4 w [k,l,v,A E d G,A F ws H] (k,l,v,d,ws):=by
 obtain⟨cs,M,r,J⟩:=h;obtain⟨O,P,S,T,rfl,-⟩:=J.agentV;obtain⟨-,-,-,K,L⟩:=Q5v r;rw[K]at B;rw[L]at C;simp only[Bt]at B C;rw[<-B,<-C];exact J
def Qig{w}(p c)(n:List Qb)(h:Rd (.slice Q4) w [A p n c] n)(s:n<=Bu):
  Bv prog 203 #[A p n c] w (oR w (Jr n)):=by
 unfold Bu at s;have H:=qh h;clear h;by_cases q0:1<=n.length/\n.length<=600;rotate_left
 ·have E:=D (Jr n=Bm) (by
   have:Qxi n 1 600=Bm:=Q13.2 (by omega);simp only[Jr,this,Ct])
  by_cases q1:n.length<1
  ·have f:(n:Int)<1:=by omega
   go_enter func203,ntmps203;go_wp2;go_ret;exact⟨Q2 E.o.symm,Ai _ _⟩
  have f:¬(n:Int)<1:=by omega
  have t:(600:Int)<n:=by omega
  go_enter func203,ntmps203;go_wp2;go_ret;exact⟨Q2 E.o.symm,Ai _ _⟩
 have E:=D (Jr n=(List.range n).all λ(i:Nat)=>Yb (Q9 n i) && ((aK (Q9 n i)==1)==((i:Int)==0))) (by have:Qxi n 1 600=Bn:=Qj.2 (by omega);simp only[Jr,this,Ea]);obtain⟨h1,h6⟩:=q0;have f:¬(n:Int)<1:=by omega
 have t:¬(600:Int)<n:=by omega
 go_enter func203,ntmps203;go_wp2;go_loopw [15] (λi wr=>∃j:Nat,j<=n/\i=I Z j/\Hd (∀q,q<j->(Yb (Q9 n q) && ((aK (Q9 n q)==1)==((q:Int)==0)))=Bn)/\Hd (w,wr)) (λi _=>n.length-(By i).toNat);case atStart=>exact⟨0,Ak _,rfl,λq h=>absurd h (Nat.not_lt_zero _),Ai _ _⟩
 obtain⟨j,hj,rfl,g,S⟩:=hrel;by_cases K:j<n
 ·obtain⟨b1,o1,rfl,F⟩:=Rd.elem H j K
  generalize hx:n[j]=x at F;obtain⟨k,l,v,d,ws⟩:=x;have T:=D (Q9 n j=(k,l,v,d,ws)) (by rw[Qy K,hx]);clear hx;have F:=F.kb S;obtain⟨L,M,O,P,⟨U,m,o,V,W⟩,_,_,_⟩:=F.agent;have u:=qh (F.rdv V W);simp only[Ty.sz,Bj]at U m o V W;have y:=Ac wr _ U;simp only at y;clear F;go_upto_region 6 with fail
  refine Qp λz X=> ?_;obtain⟨G,d1,d2,d3,d4⟩:=Q11 wr k l v (A L d M) (A O ws P) 153;have r:=D (wr,z) (by rw[X];go_grown);rw[<-X]at G d1 d2 d3 d4;clear X U m o V W;have Y:=qh (u.o.kb r.o);have a:=qh (Q0 S r.o);cases hag:Yb (k,l,v,d,ws)with
  |false=>
   have C:=qh hag;go_wp2_with((go_at_call 164;(with_reducible refine jR (Qew [k,l,v,A L d M,A O ws P] Y) λw' B=> ?_);rw[C.o];have J:=qh (Q0 a.o B);clear B))
   go_ret;exact⟨Q2 (by rw[E.o];exact(J5 j K (by rw[T.o,C.o];rfl)).symm),J.o⟩
  |true=>
   have C:=qh hag;cases hkk:((k==1)==((j:Int)==0))with
   |false=>
    have b:=qh hkk;have A0:((k==1) !=((j:Int)==0))=Bn:=by rw[bne,hkk];rfl
    go_wp2_with((go_at_call 164;(with_reducible refine jR (Qew [k,l,v,A L d M,A O ws P] Y) λw' B=> ?_);rw[C.o];have G:=jC B G;have J:=qh (Q0 a.o B);clear B))
    go_ret;exact⟨Q2 (by rw[E.o];exact(J5 j K (by rw[T.o,C.o];simp only[aK,b.o];rfl)).symm),J.o⟩
   |true=>
    have b:=qh hkk;have A0:((k==1) !=((j:Int)==0))=Bm:=by rw[bne,hkk];rfl
    go_wp2_with((go_at_call 164;(with_reducible refine jR (Qew [k,l,v,A L d M,A O ws P] Y) λw' B=> ?_);rw[C.o];have G:=jC B G;have J:=qh (Q0 a.o B);clear B))
    go_roundw;case rel=>exact⟨j+1,by omega,by go_num,λq hq=>(by
     by_cases A1:q=j
     ·subst A1;rw[T.o,C.o];simp only[aK,b.o];rfl
     exact g.o q (by omega)),J.o⟩
    simp[By];omega
 have A2:n<=j:=by omega
 go_wp2;go_ret;exact⟨Q2 (by rw[E.o];exact(Q1l λi hi=>g.o i (by omega)).symm),S.o⟩
def Qfn{w}(b o)(n:List Qb)(h:At Jl w b o n)(hl:n.length<=1000000)(T:(Qk n).length<=10000000):
  Bv prog 205 #[(b,o)] w λe w'=>∃v,e=.returned v/\Qxu Q5 207 w w' v (Qk n)/\(w,w'):=by
 obtain⟨p,c,c0,hc,hm,U⟩:=h.net;have HN:=qh U;have V:=qh T;have A4:=Ac w _ c0;simp only at A4;clear U h hm T;obtain⟨i0,A5,A6,A7,A8⟩:=info_parts Q94;go_enter func205,ntmps205;go_wp2_with fail
 have W:=qh (Qxu.nil (t:=Q5) (e:=207) (B:=w) (w:=w));go_loopw [3,12] (λu i wr=>∃(j:Nat),j<=n/\i=I Z j/\Hd (Qxu Q5 207 w wr u (Q0m n j 0))/\Hd (w,wr)) (λ_ i _=>n.length-(By i).toNat);case atStart=>exact⟨0,Ak _,rfl,W.o.eqL (Qh2 n).symm,Ai _ _⟩
 rename Bh=>wo
 obtain⟨j,hj,rfl,G,C⟩:=hrel;clear W;by_cases F:j<n
 ·obtain⟨b1,o1,rfl,E⟩:=Rd.elem HN j F
  generalize hx:n[j]=x at E;obtain⟨k,l,v,d,ws⟩:=x;have H:=D (Q9 n j=(k,l,v,d,ws)) (by rw[Qy F,hx]);have E:=E.kb C;obtain⟨pd,cd,pw,cw,⟨J,X,Y,f,g⟩,-,-,⟨AJ,A9,AA⟩⟩:=E.agent;simp only[Ty.sz,Bj]at J X Y f g;have AK:ws.length<=10000000:=by
   have h1:(Qk n).length<=10000000:=V.o;have m:(Q0k n j).length<=(Qk n):=by unfold Qk;exact(List.sublist_flatten_of_mem (Dx.2 ⟨j,List.mem_range.2 F,rfl⟩)).length_le
   rw[Vc,H.o]at m;simp only[aW]at m;omega
  have AB:=D (Q0m n (j+1) 0=Q0m n j ws) (Qgu (by rw[H.o];exact Aj _));clear E hx AA A9;have AC:=Ac wo _ J;simp only at AC;go_upto_region 6 with fail
  refine Qp λr K=> ?_;have s:=D (w,r) (by rw[K];exact C.o.alloc C.o.size _);have y:=qh (G.o.kept (show Bp wo wo r by rw[K];go_grown));clear K G J X Y f g;go_loopw [3,20] (λu i wr=>∃(q:Nat),q<=ws/\i=I Z q/\Hd (Qxu Q5 207 w wr u (Q0m n j q))/\Hd (w,wr)) (λ_ i _=>ws.length-(By i).toNat);case atStart=>exact⟨0,Ak _,rfl,y.o,s.o⟩
  obtain⟨q,hq,rfl,M,O⟩:=hrel;clear y C s;by_cases AD:q<ws
  ·have z:=D (Q0m n j (q+1)=Q0m n j q++ [((j:Int),(q:Int))]) (Qga (by rw[H.o];exact AD))
   obtain⟨L,P⟩:∃L:List Wd,L=Q0m n j q:=⟨_,rfl⟩;have AE:=D (L.length+1<=1000000000) (by rw[P];have:=Qjy (q:=q) F;have:=V.o;omega);rw[<-P]at M z;have AF:=qh (Q4z (a:=(j:Int)) (b:=(q:Int)) (by unfold Qyn;omega) (by unfold Qyn;omega));clear P;go_wp2_with(at_builtin;refine Q0w wr rfl (.tmp 23) (.tmp 27) 151 rfl (t:=Q5) rfl (by decide) w 207 i0 _ 16 underlying151 A5 A6 A7 A8 rfl (by decide) (((j:Int),(q:Int)):Int×Int) #[j,q] rfl rfl M AF rfl AE O.o.size ?_;intro v1 w1 A0 A1 AG;have AH:=qh A0;have AI:=qh (O.o.trans A1);clear A0 A1 AG)
   go_roundw;case rel=>exact⟨q+1,by omega,by go_num,AH.o.eqL z.o.symm,AI.o⟩
   simp[By];omega
  have A2:q=ws:=by omega
  have S:=qh A2;clear A2;go_wp2
  go_roundw;case rel=>exact⟨j+1,by omega,by go_num,M.o.eqL (by rw[AB.o,S.o]),O.o⟩
  simp[By];omega
 have A3:j=n:=by omega
 have S:=qh A3;clear A3;go_wp2
 go_ret;exact⟨_,rfl,G.o.eqL (by rw[S.o,Qj4]),C.o⟩
def Qkk{w b o}{n:List Qb}(h:At Jl w b o n){a s:Int}(L:0<=a)(M:a<n)(O:0<=s)(B:s<(aW (Q7 n a))):Qyn (Qe n (a,s)).1/\Qyn (Qe n (a,s)).2:=by
 obtain⟨P,S,T,-,-,G⟩:=h.net;have C:a.toNat<n:=by omega
 obtain⟨U,V,-,H⟩:=Rd.elem G a.toNat C;have E:Q7 n a=n[a.toNat]:=Qy C;rw[E]at B;unfold Qe;rw[E];generalize n[a.toNat]=x at *
 obtain⟨k,l,v,d,ws⟩:=x;obtain⟨W,X,Y,c,-,-,-,⟨-,-,J⟩⟩:=H.agent;have B:s<ws:=B;have F:s.toNat<ws:=by omega
 obtain⟨e,f,-,K⟩:=Rd.elem J s.toNat F;show Qyn (ws.getD s.toNat (0,0)).1/\Qyn (ws.getD s.toNat (0,0)).2;rw[Ab,Ad F];generalize ws[s.toNat]=y at *
 obtain⟨g,i⟩:=y;exact K.word.2.2
def Qsl{n a s B C}(h:Qe n (a,s)=(B,C))(q:(B==a && C==s)=Bn):Q0x n (a,s)=Bm:=by
 simp only[Bi,beq_iff_eq]at q;have:(Qe n (a,s)==(a,s))=Bn:=by rw[h,q.1,q.2];simp
 simp only[Q0x,this,Bool.not_true,Ct]
def Qtm{n a s B C}(h:Qe n (a,s)=(B,C))(q:(B==a && C==s)=Bm):Q0x n (a,s)=(Q12 n (B,C) && Qe n (B,C)==(a,s)):=by
 have:(Qe n (a,s)==(a,s))=Bm:=by grind
 simp only[Q0x,this,Bool.not_false,Ea];rw[h]
def Qw2(w b o)(n:List Qb)(h:At Jl w b o n)(a s:Int)(k:0<=a)(l:a<n)(m:0<=s)(T:s<(aW (Q7 n a)))(H:(aW (Q7 n a)).length<=10000000):
  Bv prog 206 #[.agg #[a,s],(b,o)] w (oR w (!Q0x n (a,s))):=by
 obtain⟨p,c,c0,hc,U,q⟩:=h.net;have t:=qh q;have u:=qh U;have V:=qh h;have W:=qh (Qkk h k l m T);have A1:=qh T;have AC:(n:Int)<=9223372036854775807:=by unfold Bu at U;omega
 obtain⟨⟨E,F⟩,X⟩:∃r,Qe n (a,s)=r:=⟨_,rfl⟩;rw[X]at W;have Y:=qh X;have AD:s<=10000000:=by omega
 clear q U h T X H;go_enter func206,ntmps206;go_upto_region 1 with fail
 refine Qp λK d=> ?_;have v:=D (w,K) (by rw[d];go_grown);have A2:=D (K,oC w.heap.size #[a,s] 207) (by rw[d];exact Bg w _);clear d;obtain⟨⟨p0,L⟩,-⟩:=Zj A2;go_upto_region 2 with((go_at_call 207;(with_reducible refine jR (Qce _ b o n (V.o.kb v.o) a s k l m A1) λw1 C=> ?_);have x:=qh C;clear C;rw[Y.o]))
 refine Qp λG f=> ?_;have g:=D (K,G) (by rw[f];exact x.o.alloc x.o.size _);have A3:=D (G,oC w1.heap.size #[E,F] 207) (by rw[f];exact Bg w1 _);clear f;have M:=qh (Q0 v.o g.o);have O:=qh (Am M);obtain⟨⟨q0,q1⟩,-⟩:=Zj A3;have p0:=jC g.o p0;have L:=jC g.o L;have y:=O.o.cell _ _ c0;have z:Qyn a:=by unfold Qyn;omega
 have ik:Qyn s:=by unfold Qyn;omega
 have hq:=λw=>Qkj W.o.1 W.o.2 z ik w;cases t1:(E==a && F==s)with
 |true=>
  have P:=qh (Qsl Y t1);rw[t1]at hq;go_quiet(fail)
  go_wp2;go_ret;exact⟨Q2 (by rw[P.o];rfl),Q8 M _⟩
 |false=>
  have P:=qh (Qtm Y t1);rw[t1]at hq;clear t1;cases t2:Q12 n (E,F)with
  |false=>
   have i:=D (Q0x n (a,s)=Bm) (by rw[P.o,t2];rfl);(refine Z9 (λw'=>(G,w')) (by kernel_rfl) (by kernel_rfl) (Ai _ _).drew ?_;(repeat(first|go_big_quiet_skip|(go_big_quiet_want;apply Exists.intro;refine⟨λw' B=> ?_, ?_⟩;(focus(have A4:=jC B p0;have A5:=jC B L;have A6:=jC B q0;have A7:=jC B q1;have A8:=jC B y;go_simp;first|done|with_reducible rfl|(exact(Qeo (t.o.kept (O.o.trans (Am B))) u.o).mono λe w3 ⟨J,C⟩=>⟨by rw[J,t2],Q0 B C⟩)));simp only[Act.put,Cn,Cv,Cx];go_big_quiet_on)));refine Ek ?_;intro wz H)
   go_wp2;go_ret;exact⟨Q2 (by rw[i.o];rfl),Q0 M H⟩
  |true=>
   have A0:=t2;simp only[Q12,Bi,Qj]at A0;obtain⟨⟨g1,g2⟩,g3,g4⟩:=A0;have g5:E<(n:Int):=by omega
   have HG:=D (F<(aW (Q7 n E))) (by omega);have j:=qh (Qkk V g1 g5 g3 HG);obtain⟨⟨ea,es⟩,S⟩:∃r,Qe n (E,F)=r:=⟨_,rfl⟩;rw[S]at j;have A9:=qh S;have i:=D (Q0x n (a,s)=(ea==a && es==s)) (by rw[P.o,t2,S];rfl);have AA:=λw=>Qln j.o.1 j.o.2 z ik w;clear S g4;cases t3:(ea==a && es==s)
   all_goals
    rw[t3]at AA;have AB:=qh (i.o.trans t3);clear t3;(refine Z9 (λw'=>(G,w')) (by kernel_rfl) (by kernel_rfl) (Ai _ _).drew ?_;(repeat(first|go_big_quiet_skip|(go_big_quiet_want;apply Exists.intro;refine⟨λw' B=> ?_, ?_⟩;(focus(have A4:=jC B p0;have A5:=jC B L;have A6:=jC B q0;have A7:=jC B q1;have A8:=jC B y;go_simp;first|done|with_reducible rfl|(first|exact(Qeo (t.o.kept (O.o.trans (Am B))) u.o).mono λe w3 ⟨J,C⟩=>⟨by rw[J,t2],Q0 B C⟩|exact(Qce _ b o n (V.o.kept (O.o.trans (Am B))) E F g1 g5 g3 HG).mono λe w3 ⟨J,C⟩=>⟨by rw[J,A9.o],Q0 B C⟩)));simp only[Act.put,Cn,Cv,Cx];go_big_quiet_on)));refine Ek ?_;intro wz H)
    go_wp2;go_ret;exact⟨Q2 (by rw[AB.o];rfl),Q0 M H⟩
def Qim{n:Qy0}(B:Jr n=Bn):(n.length<=600/\1<=n.length)/\(∀i,i<n.length->Yb (Q9 n i)=Bn)/\(∀i,(aD (Q9 n i)).length<=4/\(aW (Q9 n i)).length<=4)/\(Qk n).length<=2400:=by
 unfold Jr at B;simp only[Bi]at B;have L:=Qj.1 B.1;have G:∀i,i<n.length->Yb (Q9 n i)=Bn:=λi H=>by grind
 have K:∀x:Qb,Yb x=Bn->((aD x).length<=4/\(aW x).length<=4)/\0<=aL x/\aL x<=8:=λx C=>by
  unfold Yb at C;simp only[Bi,beq_iff_eq]at C;obtain⟨⟨⟨M,O⟩,E⟩,F⟩:=C;refine⟨⟨?_, ?_⟩, ?_⟩
  ·unfold Zd at F
   repeat' split at F
   all_goals simp only[Bi,beq_iff_eq]at F
   ·omega
   ·omega
   ·omega
   ·omega
   ·omega
   ·grind[Qj]
   ·omega
   omega
  ·grind[V4,Qj]
  unfold Zm at E;split at E
  ·exact Qj.1 E
  grind
 have J:∀i,(aD (Q9 n i)).length<=4/\(aW (Q9 n i)).length<=4:=λi=>by
  by_cases H:i<n.length
  ·exact(K _ (G i H)).1
  unfold Q9;rw[Ab,List.getElem?_eq_none (by omega)];simp[Q9x,aD,aW]
 refine⟨by omega,G,J, ?_⟩;unfold Qk;rw[List.length_flatMap];have P:∀l:List Nat,(l.map λi=>(Q0k n i).length).sum<=l * 4:=λl=>by
  induction l with
  |nil=>simp
  |cons a r ih=>rw[List.map_cons,List.sum_cons,Br,Vc,Dv];have:=(J a).2;omega
 grind
def Qgb{n:Qy0}{x}(h:x∈Qk n):(0<=x.1/\x.1<n)/\(0<=x.2/\x.2<(aW (Q7 n x.1))):=by
 obtain⟨i,B,h⟩:=List.mem_flatMap.1 h;obtain⟨k,C,rfl⟩:=Dx.1 h;grind[Q7]
def Rd.wordV{w vs}{a s:Int}(h:Rd Q5 w vs (a,s)):vs=[I Z a,I Z s]/\Qyn a/\Qyn s:=by
 obtain⟨_,_,rfl,⟨rfl,i⟩,⟨rfl,j⟩⟩:=h;exact⟨rfl,i,j⟩
theorem Q3u{α:Type}(l:List α)(f):(!l.any λx=> !f x)=l.all f:=by
 grind
def Qit{w}(vs)(n:List Qb)(h:Rd Jl w vs n):
  Bv prog 171 #[.agg vs.toArray] w λe w'=>e=.returned (.bool (Yd n))/\(w,w'):=by
 obtain⟨p,c,rfl,-,L,M⟩:=Jh h;have G:=qh M;have O:=qh L;clear h M L;cases q0:Jr n with
 |false=>
  have H:=D (Yd n=Bm) (by simp only[Yd,q0,Ct]);go_enter func171,ntmps171;go_wp2_with((go_at_call 203;(with_reducible refine jR (Qig p c n (G.o.kb (by go_grown)) O) λw1 B=> ?_);rw[q0];have E:=D (w,w1) (Q0 (by go_grown) B);clear B))
  go_ret;exact⟨Q2 H.o.symm,E.o⟩
 |true=>
  have H:=D (Yd n=(Qk n).all (Q0x n)) (by simp only[Yd,q0,Ea]);have P:=qh (Qim q0);have X:=qh q0;clear q0;have Y:=D (Vw prog 206) (by intro _ _;kernel_rfl);go_enter func171,ntmps171;go_upto_region 1 with fail
  refine Qp λF J=> ?_;have K:=D (w,F) (by rw[J];go_grown);have b:=D (F.heap[w.heap.size]?=R (.cells #[A p n c] 79 (0,0))) (by rw[J];exact Bg w _);have d:F.cell? ⟨w,0,N⟩=R (A p n c):=Q6 b.o rfl;clear J;have f:=D (At Jl F w 0 n) (⟨[A p n c],rfl,λj g=>(by
   obtain rfl:j=0:=by simpa using g
   exact d),G.o.kb K⟩)
  go_upto_region 3 with((go_at_call 203;(with_reducible refine jR (Qig p c n (G.o.kb K) O) λw1 B=> ?_);rw[X.o];have E:=qh B;clear B))
  have S:=qh (f.o.kb E);have i:=D (∀(W:Bh),Bp w1 w1 W->∀(C:Bh) (vs:List Value) (x:Q5.den),x∈Qk n->Bp W W C->Rd Q5 C vs x->Bv prog 206 (#[.agg vs.toArray]++ #[.pointer (R ⟨w,0,N⟩)]) C λe w'=>e=.returned (.bool (!Q0x n x))/\(C,w')) (λW k C vs x l B m=>by obtain⟨a,s⟩:=x;obtain⟨rfl,-,-⟩:=m.wordV;obtain⟨⟨o,q⟩,r,t⟩:=Qgb l;exact Qw2 C w 0 n (S.o.kb (Q0 k B)) a s o q r t (by have:=(P.o.2.2.1 a.toNat).2;have e:Q7 n a=Q9 n a.toNat:=rfl;rw[e];omega));have T:=D (n.length<=1000000/\(Qk n).length<=10000000) (by have:=P.o;omega);go_wp2_with(first|((go_at_call 205;(with_reducible refine(Qfn w 0 n S T.o.1 T.o.2).mono ?_);rintro e w2 ⟨y,rfl,U,B⟩;have u:=qh U;have V:=qh B;clear U B))|((go_at_call 204;(with_reducible refine jR (Qdc _ _ (Qk n) (λx=> !Q0x n x) _ _ (u.o.rd rfl) Y (i.o _ V)) λz B=> ?_);have v:=qh B;clear B))|fail)
  go_ret;exact⟨Q2 (by rw[H.o,Q3u]),Q0 (Q0 (Q0 K E) V) v.o⟩
def Qtc(w vs)(n:List Qb)(h:Rd Jl w vs n):
  Bv prog 170 #[.agg vs.toArray] w (oR w (!Yd n)):=by
 obtain⟨p,c,rfl,-,C,E⟩:=Jh h;have F:=qh h;clear h E C;go_enter func170,ntmps170;go_wp2_with((go_at_call 171;(with_reducible refine jR (Qit [A p n c] n (F.o.kb (by go_grown))) λw1 B=> ?_);have G:=D (w,w1) (Q0 (by go_grown) B);clear B))
 go_ret;exact⟨rfl,G.o⟩
def Qa1{w}(p c)(bk:List Qy0)(h:Rd (.slice Jl) w [A p bk c] bk):
  Bv prog 131 #[A p bk c] w (oR w (Q0s bk)):=by
 have H:=qh h;have F:=D (Vw prog 170) (by intro _ _;kernel_rfl);have G:=D (∀(B:Bh) (vs:List Value) (x:Jl.den),x∈bk->Bp w w B->Rd Jl B vs x->Bv prog 170 (#[.agg vs.toArray]++ #[]) B (oR B (!Yd x))) (λB vs x _ _ J=>Qtc B vs x J);clear h;by_cases q:(bk:Int)<=24
 ·have C:=D (Q0s bk=bk.all Yd) (by unfold Q0s;simp[q])
  have K:decide ((bk:Int)<=24)=Bn:=by simpa using q
  go_enter func131,ntmps131;go_wp2_with((go_at_call 169;(with_reducible refine jR (Qfv _ _ bk (λx=> !Yd x) _ _ H F G) λw1 E=> ?_);have L:=qh E;clear E))
  go_ret;exact⟨Q2 (by rw[C.o,Q3u]),L.o⟩
 have C:=D (Q0s bk=Bm) (by unfold Q0s;simp[q]);have K:decide ((bk:Int)<=24)=Bm:=by simpa using q
 go_enter func131,ntmps131;go_wp2;go_ret;exact⟨Q2 C.o.symm,Ai _ _⟩
end Go.Proofs.YtcjngpfigpglfaaGreatDoor
