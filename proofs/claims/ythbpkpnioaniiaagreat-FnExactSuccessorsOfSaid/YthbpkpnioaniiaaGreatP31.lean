import Derived.Test.YthbpkpnioaniiaaGreatP30
set_option maxHeartbeats 40000000
set_option maxRecDepth 100000
set_option linter.all false
namespace Go.Proofs.YthbpkpnioaniiaaGreat
open Go.RowKit Go.Proofs.Tryz
open Go.Value renaming int->I,slice->A
open Go.IntKind renaming i64->Z
open Option renaming none->N,some->R
open Go renaming World->Bh,Calls->Bq,heap_alloc_new->Bg
open Go.RowKit renaming Below->Bi
theorem Qmk(n:Qr2)(by_:Int)(B:Wd)(m:Qqp):(mX (V5 n by_ B m).1).length=(mX m).length+(Yd n).length:=by
 unfold V5;simp only;rw[Qdb (λs p=>Q54 _ _ _),Qgy]
 ·rw[Q94]
 ·intro s w
  unfold Y7;simp only;repeat' split
  all_goals rfl
theorem Qrc(bk:List Qr2)(m:Qqp)(a b:Int):Jf bk m 7 a b=(Vo bk (Qg m a) (Q7 (mC m) a) b,[]):=rfl
theorem Qnp(O w:Bh)(AP:Bi O.heap.size O w)(p0:Option Addr)(AQ:Nat)(bk:List Qr2)(AR:Rd (.slice Je) O [A p0 bk.length AQ] bk)(pb f:Nat)(m:Qqp)(S:MS)(h:Z8 w pb f m S)(hS:∀b∈pb::S.all,O.heap.size<=b)(a b:Int)(l:List Nat)(hl:Yf m l)(BP:0<=a)(ha:a<(mC m).length)(C3:0<=b)(H:b<(mC m).length)(AS:a.toNat∉l)
  (AT:Q8y bk (Q7 (mC m) a) l.length) (hz:((aD (Q7 (mC m) a)).length<=1000/\(aW (Q7 (mC m) a)).length<=1000)/\((aD (Q7 (mC m) b)).length<=1000/\(aW (Q7 (mC m) b)).length<=1000)) (hK:(mC m).length<=1500) (hX:(mX m).length<=1000):
  Bq prog 147 #[A p0 bk.length AQ,.pointer (R ⟨pb,f,N⟩),I Z 7,I Z a,I Z b] w λe w'=>∃v' S' i,e=.returned v'/\Qk w S pb f w' (Jf bk m 7 a b).1 S' i/\Y9 w S' w' v' (Jf bk m 7 a b).2:=by
 have AU:=qh (Qk.start h hl);have BQ:a.toNat<(mC m).length:=by omega
 have BR:b.toNat<(mC m).length:=by omega
 obtain⟨us,AV,AW,AA⟩:=h.cell BQ;obtain⟨ut,AX,AY,AZ⟩:=h.cell BR;have B0:D (At Q3 w S.cb (S.o+a.toNat * 5) (Q7 (mC m) a)):=qh (⟨us,AV,AW,AA.rd⟩);have B1:D (At Q3 w S.cb (S.o+b.toNat * 5) (Q7 (mC m) b)):=qh (⟨ut,AX,AY,AZ.rd⟩);have HI:D (Qqm (aL (Q7 (mC m) a))/\Qqm b):=qh (by obtain⟨_,_,_,_,_,_,_,_,_,_,_,i2,_⟩:=AA.agent;exact⟨i2,by unfold Qqm;omega⟩);obtain⟨_,_,c0,-,-,-,-,-,-,-,-⟩:=h.head;have B2:=h.cells.bound;unfold maxLen at B2;obtain⟨C4,C5⟩:=B2;have B3:=qh (Qrc bk m a b);obtain⟨j,k,BS,hE⟩:∃j k,p0=R ⟨j,k,N⟩/\At Je O j (k+(aV (Q7 (mC m) a)).toNat * 1) (Y4 bk (aV (Q7 (mC m) a))):=by
  have A0:(aV (Q7 (mC m) a)).toNat<bk.length:=by have:=AT.1;omega
  obtain⟨j,k,Y,s⟩:=Rd.elem AR _ A0;refine⟨j,k,Y, ?_⟩;have e:Y4 bk (aV (Q7 (mC m) a))=bk[(aV (Q7 (mC m) a)).toNat]:=by unfold Y4;rw[Ab,Ad A0];rfl
  rw[e];exact s
 subst BS;generalize Q7 (mC m) a=x at *
 generalize Q7 (mC m) b=y at *
 obtain⟨kx,E,B,dx,A1⟩:=x;obtain⟨ky,ly,vy,dy,AB⟩:=y;simp only[aD,aW,aV,aL]at hz hE HI;obtain⟨⟨C6,C7⟩,B4,⟨BT,BU⟩,B5⟩:(0<=B/\B<bk.length)/\Ys (Y4 bk B)=true/\(0<=E/\E<=8)/\(Y4 bk B).length+(Zv (Y4 bk B)).length<=l.length+2:=AT;simp only[Nat.mul_one]at hE;have HZ:=qh hz;have HE:=qh hE;have A5:D (pb<w.heap.size/\S.cb<w.heap.size):=qh (⟨h.lt pb Ae,h.lt S.cb (Aa _ Ae)⟩);have AC:=qh h.lt;have C8:=h.blk.lt;have C9:=h.cells.blk.lt;have BV:=qh AS;have AD:=qh (And.intro B4 B5);have AE:=qh hS;have B6:=qh AP;have AF:=qh (And.intro hK hX);clear h hl AV AW AA AX AY AZ hz AS B4 B5 hE hS AP hK hX AR;go_enter func147,ntmps147;go_upto_region 2 with(first|((go_at_call 99;(with_reducible refine(Q3l _ _ _ kx E B dx A1 B0.o (by have:=HZ.o;omega) (by have:=HZ.o;omega)).mono ?_);rintro e w1 ⟨vs,rfl,L,H⟩;obtain⟨AG,AH,AI,AJ,rfl⟩:=L.agentShape;have B7:=qh L;have A2:=qh H;clear L H)))
 have B8:=qh (Q49.box (T:=134) B7.o A2.o);have A6:D (Bi w.heap.size w (w1.alloc (.cells #[I Z kx,I Z E,I Z B,A AG dx.length AH,A AI A1.length AJ] 134))):=qh (A2.o.alloc A2.o.size _);have CA:=A2.o.size;have CB:w1.heap.size<(w1.alloc (.cells #[I Z kx,I Z E,I Z B,A AG dx.length AH,A AI A1.length AJ] 134)).heap.size:=by simp
 generalize w1.alloc (.cells #[I Z kx,I Z E,I Z B,A AG dx.length AH,A AI A1.length AJ] 134)=W2 at *
 have BW:=(Am A6.o).cell _ _ c0;clear B7;go_upto_region 3 with(first|((go_at_call 99;(with_reducible refine(Q3l _ _ _ ky ly vy dy AB (B1.o.kept (Am A6.o)) (by have:=HZ.o;omega) (by have:=HZ.o;omega)).mono ?_);rintro e w3 ⟨vs,rfl,L,H⟩;obtain⟨B9,BA,BB,BC,rfl⟩:=L.agentShape;have BX:=qh L;have AK:=qh H;clear L H)))
 have AL:D (Bi W2.heap.size W2 (w3.alloc (.cells #[I Z ky,I Z ly,I Z vy,A B9 dy.length BA,A BB AB.length BC] 134))):=qh (AK.o.alloc AK.o.size _);have CC:=AK.o.size;generalize w3.alloc (.cells #[I Z ky,I Z ly,I Z vy,A B9 dy.length BA,A BB AB.length BC] 134)=W4 at *
 have BD:=qh (AU.o.below (A6.o.trans (AL.o.mono (by omega))));clear BX c0 BW;go_upto_region 5 with((go_at_call 139;(with_reducible refine(Q7j BD.o a BP ha BV.o).mono ?_);rintro e C ⟨rfl,J,F⟩;have BE:=qh J;have BF:=qh F;clear J F))
 have v:D (∀W,Bi C.heap.size C W->W.cell? ⟨w1.heap.size,1,N⟩=R (I Z E)/\W.cell? ⟨w1.heap.size,2,N⟩=R (I Z B)):=qh (λW H=>by obtain⟨G,o,r⟩:=B8.o;have o6:=o.frame (X:=λc=>c=pb\/c=S.cb) ((Ay AL.o).trans (BF.o.trans (Ay H))) (λc P e=>by have:=r c P;have:=A5.o;omega);obtain⟨us,Y,s,h3,-⟩:=o6;obtain⟨_,_,_,_,_,_,rfl,-⟩:=h3.agent;obtain⟨-,q1,q2,-⟩:=Q4b s;exact⟨q1,q2⟩);have BG:D (Bi O.heap.size O C):=qh (B6.o.trans (BE.o.fr.below B6.o.size λc P=>AE.o c (P.elim (λe=>e▸Ae) (Aa _))));have BY:D (∀c∈pb::(S.put a []).all,O.heap.size<=c):=qh (λc P=>by
  rcases Aq.1 P with e|P
  ·exact AE.o c (e▸Ae)
  ·rcases Zf P with h|h
   ·simp at h
   ·exact AE.o c (Aa _ h))
 have A3:D (∀W,Bi C.heap.size C W->Bq prog 188 #[.pointer (R ⟨pb,f,N⟩),.pointer (R ⟨j,k+B.toNat,N⟩),I Z E,.agg #[I Z 1,I Z b]] W λe w'=>e=.returned (.agg #[I Z (V5 (Y4 bk B) E (1,b) (Qg m a)).2.1,I Z (V5 (Y4 bk B) E (1,b) (Qg m a)).2.2])/\Qqm (V5 (Y4 bk B) E (1,b) (Qg m a)).2.2/\∃S' i,Qk w S pb f w' (V5 (Y4 bk B) E (1,b) (Qg m a)).1 S' i/\Q1 (λc=>c=pb\/c∈(S.put a []).all) W w'/\∀b∈S'.all,b∈(S.put a []).all\/W.heap.size<=b):=qh (λW H=>by have U:=BE.o.below H;refine(Qnk O W (BG.o.trans (H.mono BG.o.size)) pb f (Qg m a) (S.put a []) U.mem BY.o (a.toNat::l) U.free j (k+B.toNat) (Y4 bk B) HE.o AD.o.1 E b ⟨BT,BU⟩ HI.o.2 (by have:=AD.o.2;simp only[List.length_cons];omega) (by rw[Zk];exact AF.o.1) AF.o.2).mono ?_;rintro e w' ⟨S',i,rfl,hi,J⟩;exact⟨rfl,hi,S',i,U.thru J,J.fr,J.fresh.2.2.2⟩);have AM:D (∀W n,Bi C.heap.size C W->Q1 (λc=>c=pb\/c∈(S.put a []).all) W n->∀W',Q1 (λc=>C.heap.size<=c) n W'->W'.cell? ⟨w1.heap.size,1,N⟩=R (I Z E)/\W'.cell? ⟨w1.heap.size,2,N⟩=R (I Z B)):=qh (λW n H F W' BH=>by
  obtain⟨Y,s⟩:=v.o W H;have hw:=Ac W _ Y;have L:¬(w1.heap.size=pb\/w1.heap.size∈(S.put a []).all):=λe=>by
   rcases e with e|e
   ·have:=A5.o;omega
   ·rcases Zf e with h|h
    ·simp at h
    ·have:=AC.o _ (Aa _ h);omega
  have BI:w1.heap.size<W.heap.size:=hw;have A0:¬C.heap.size<=w1.heap.size:=by have:=Ac C _ (v.o C (Ai _ _)).1;simp only at this;omega
  exact⟨(BH.cell (Ap BI F.size) A0 1).trans ((F.cell hw L 1).trans Y),(BH.cell (Ap BI F.size) A0 2).trans ((F.cell hw L 2).trans s)⟩)
 have AN:D ((mX (V5 (Y4 bk B) E (1,b) (Qg m a)).1).length<=1000000):=qh (by rw[Qmk];have Y:=Q14 (Y4 bk B) (Y4 bk B).length;rw[<-Q1r]at Y;have s:=(Y5 AD.o.1).1.1;have h3:mX (Qg m a)=mX m:=rfl;have h4:(mX m).length<=1000:=AF.o.2;have h5:(Yd (Y4 bk B)).length<=(Y4 bk B).length:=Y;rw[h3];omega);have A7:D (Vo bk (Qg m a) (kx,E,B,dx,A1) b=(if(V5 (Y4 bk B) E (1,b) (Qg m a)).2.2 !=b then Yu (V5 (Y4 bk B) E (1,b) (Qg m a)).1 b (V5 (Y4 bk B) E (1,b) (Qg m a)).2.2 else(V5 (Y4 bk B) E (1,b) (Qg m a)).1)):=qh (rfl);obtain⟨⟨m',t,u⟩,BJ⟩:∃r,V5 (Y4 bk B) E (1,b) (Qg m a)=r:=⟨_,rfl⟩;rw[BJ]at A3 AN A7;simp only at A3 AN A7;obtain⟨c1,c2⟩:=v.o C (Ai _ _);have CD:w1.heap.size<C.heap.size:=Ac C _ c1;clear BJ A2 A6 AL B8 BD BF AU B0 B1;have BK:D (∀(W n:Bh) (g:Nat) (o:Obj),Q1 (λc=>c=pb\/c∈(S.put a []).all) W n->C.heap.size<=g->W.heap[g]?=R o->n.heap[g]?=R o):=qh (λW n g o F hg ho=>(F.block g (Al.1 ho).1 (λe=>by
  rcases e with e|e
  ·have:=A5.o;omega
  ·rcases Zf e with h|h
   ·simp at h
   ·have:=AC.o _ (Aa _ h);omega)).trans ho)
 have BL:D (∀(W:Bh) (M:MS) (g:Nat),(∀b∈M.all,b∈(S.put a []).all\/W.heap.size<=b)->C.heap.size<=g->g<W.heap.size->g∉pb::M.all/\w.heap.size<=g):=qh (λW M g L hg hl=>⟨λU=>by
  rcases Aq.1 U with e|e
  ·have:=A5.o;omega
  ·rcases L g e with e|e
   ·rcases Zf e with h|h
    ·simp at h
    ·have:=AC.o _ (Aa _ h);omega
   ·omega,by omega⟩)
 have BZ:D (((C.alloc (.cells #[I Z 0,I Z 0] 40)).drew).heap[C.heap.size]?=R (.cells #[I Z 0,I Z 0] 40 (0,0))):=qh (Bg C _);go_cut [13] (λx wx=>∃(g:Nat) (S':MS) (i:List Nat),x=.pointer (R ⟨g,0,N⟩)/\D (wx.heap[g]?=R (.cells #[I Z t,I Z u] 40 (0,0)))/\D (Qk w S pb f wx m' S' i)/\D (Qqm u))
 case first=>
  go_region_held3(λW=>W.cell? ⟨w1.heap.size,1,N⟩=R (I Z E)/\W.cell? ⟨w1.heap.size,2,N⟩=R (I Z B))
   ((first|with_reducible exact z.o _ (Q1.refl _ _)|with_reducible exact z.o _ (V1 (Q1.refl _ _) K.o.size _ _)|with_reducible exact z.o _ (V1 (Q1.refl _ _) (Aj _) _ _)|with_reducible exact z.o _ ((Q1.refl _ _).alloc _)|with_reducible exact v.o _ K.o|with_reducible exact v.o _ (K.o.alloc K.o.size _)|(refine v.o _ ?_;go_grown)|fail))
   (first|((go_at_call 189;(with_reducible refine(Vj _ b).mono ?_);rintro e wA ⟨rfl,H⟩;have BM:=qh (Qe BZ.o H);have K:D (Bi C.heap.size C wA):=qh (Q0 (by go_grown) H);clear H))|((go_at_call 189;(with_reducible refine(Vj _ b).mono ?_);rintro e wA ⟨rfl,H⟩;have K:D (Bi C.heap.size C wA):=qh (Q0 (by go_grown) H);clear H))|((go_at_call 188;(with_reducible refine(A3.o _ K.o).mono ?_);rintro e w6 ⟨rfl,d,M,p,J,F,q⟩;have A8:=qh d;clear d;have A9:=qh (BK.o _ _ _ _ F (Aj _) BM.o);have BN:=qh (BL.o _ _ _ q (Aj _) (Al.1 BM.o).1);have z:=qh (AM.o _ _ K.o F);have V:=qh J;obtain⟨⟨q0,q1⟩,qf⟩:=Za A9.o;clear J F q))|((go_at_call 188;(with_reducible refine(A3.o _ K.o).mono ?_);rintro e w6 ⟨rfl,d,M,p,J,F,q⟩;have A8:=qh d;clear d;have z:=qh (AM.o _ _ K.o F);have V:=qh J;clear J F q))|((go_at_call 188;(with_reducible refine(A3.o _ (K.o.alloc K.o.size _)).mono ?_);rintro e w6 ⟨rfl,d,M,p,J,F,q⟩;have A8:=qh d;clear d;have z:=qh (AM.o _ _ (K.o.alloc K.o.size _) F);have V:=qh J;have A9:=qh (BK.o _ _ _ _ F K.o.size (Bg wA _));have BN:=qh (BL.o _ _ _ q K.o.size (Al.1 (Bg wA (.cells #[I Z 0,I Z 0] 40))).1);obtain⟨⟨q0,q1⟩,qf⟩:=Za A9.o;clear J F q))|fail)
  all_goals
   go_wp2_with fail
   go_meet
   first
    |exact⟨_,M,p,rfl,Vm A9.o _ _,V.o.other (V1 (X:=λc=>c=_) (Q1.refl _ _) rfl _ _) (λc P=>by rw[P];exact BN.o),A8.o⟩
    |exact⟨_,M,p,rfl,Bg w6 _,V.o.below ((Ai _ _).alloc (Aj _) _),A8.o⟩
 case rest=>
  obtain⟨g,M,p,rfl,HG,V,C0⟩:=hcut;obtain⟨⟨q0,q1⟩,-⟩:=Za HG.o;by_cases BO:u=b
  ·subst BO
   have A4:D (Jf bk m 7 a u=(m',[])):=qh (by rw[B3.o,A7.o];simp);go_wp2_with fail
   go_ret;exact⟨_,M,p,rfl,by rw[A4.o];exact V.o.below ((Ai _ _).alloc (Aj _) _),by rw[A4.o];exact Yy.ofOwn (Vv (t:=Qu) (T:=120) wc wc.heap.size rfl rfl) rfl V.o.size (λb U=>V.o.mem.lt b (Aa _ U))⟩
  ·have C1:(u !=b)=true:=by simpa using BO
   have A4:D (Jf bk m 7 a b=(Yu m' b u,[])):=qh (by rw[B3.o,A7.o,C1];simp);go_wp2_with((go_at_call 190;(with_reducible refine(Qcm V.o b u HI.o.2 C0.o AN.o).mono ?_);rintro e w8 ⟨rfl,S8,J,F,C2⟩;have AO:=qh J;clear J F C2))
   go_ret;exact⟨_,S8,p,rfl,by rw[A4.o];exact AO.o.below ((Ai _ _).alloc (Aj _) _),by rw[A4.o];exact Yy.ofOwn (Vv (t:=Qu) (T:=120) w8 w8.heap.size rfl rfl) rfl AO.o.size (λb U=>AO.o.mem.lt b (Aa _ U))⟩
def Qre(t:TypeId)(x h:Operand):Op:=Op.slice t x N (R h) N
theorem Qrd(t:TypeId)(x h:Operand):Qre t x h=Op.slice t x N (R h) N:=rfl
theorem Qiy(C w:Bh)(V:Bi C.heap.size C w)(F:Option Addr)(G:Nat)(bk:List Qr2)(W:Rd (.slice Je) C [A F bk.length G] bk)(pb E:Nat)(m:Qqp)(S:MS)(h:Z8 w pb E m S)(X:∀b∈pb::S.all,C.heap.size<=b)(B a b:Int)(l:List Nat)(J:Yf m l)(K:0<=a)(L:a<(mC m).length)(M:0<=b)(O:b<(mC m).length)(Y:a≠b)(P:a.toNat∉l)(c:b.toNat∉l)
  (d:B≠7->Qd5 B (Q7 (mC m) a) (Q7 (mC m) b) l.length) (f:B=7->Q8y bk (Q7 (mC m) a) l.length) (T:((aD (Q7 (mC m) a)).length<=1000/\(aW (Q7 (mC m) a)).length<=1000)/\((aD (Q7 (mC m) b)).length<=1000/\(aW (Q7 (mC m) b)).length<=1000)) (g:(mC m).length<=1500) (hX:(mX m).length<=1000):
  Bq prog 147 #[A F bk.length G,.pointer (R ⟨pb,E,N⟩),I Z B,I Z a,I Z b] w λe w'=>∃U S' i,e=.returned U/\Qk w S pb E w' (Jf bk m B a b).1 S' i/\Y9 w S' w' U (Jf bk m B a b).2:=by
 by_cases H:B=7
 ·subst H
  exact Qnp C w V F G bk W pb E m S h X a b l J K L M O P (f rfl) T g hX
 ·exact Qom w _ bk pb E m S h B a b l J K L M O Y P c H (d H) T (by omega)
theorem Qmt(A0 w:Bh)(AN:Bi A0.heap.size A0 w)(p0:Option Addr)(c0:Nat)(bk:List Qr2)(AO:Rd (.slice Je) A0 [A p0 bk.length c0] bk)(CN:bk.length<=maxLen)(BC:∀n∈bk,Qbv n)(AP:∀n∈bk,Ys n=true)(pb M:Nat)(p:J9)(P:PS)(k:Nat)(h:Zj w pb M p P)(hS:∀b∈pb::P.all,A0.heap.size<=b)(L:k<(pW p).length)(hx:0<(wX (Q5 p k)).length)(l:List Nat)(J:Q9u bk p k l):
  Bq prog 95 #[A p0 bk.length c0,.pointer (R ⟨pb,M,N⟩),.pointer (R ⟨P.wb,P.wo+k * 5,N⟩)] w λe w'=>e=.returned (I Z (Q0k bk (pM p) (Q5 p k)))/\∃P',Qy w P pb M w' (Q3k bk p k) P':=by
 have d:=J;have HP:=qh h;have DT:=qh d;obtain⟨px,cx,Gx,c2,A3,-,-,-⟩:=h.focR L;have F:=h.mem.at;have HA:D (At Qo w pb M (pM p)):=qh (F);have O:=Qgf d.rok;have DU:=qh O;have DV:=d.xlen;have AQ:(wX (Q5 p k)).length-1<(wX (Q5 p k)).length:=Nat.sub_lt hx Nat.one_pos;obtain⟨bx,ox,rfl,hE⟩:=Rd.elem A3.rd ((wX (Q5 p k)).length-1) AQ;have CO:D ((wX (Q5 p k))[(wX (Q5 p k)).length-1]'AQ=Ya (Q5 p k)):=qh (by unfold Ya;rw[Ab,Ad AQ];rfl);rw[CO.o]at hE;obtain⟨⟨q0,q1⟩,hq⟩:∃r,Ya (Q5 p k)=r:=⟨_,rfl⟩;rw[hq]at hE;obtain⟨e0,e1,i0,i1⟩:=hE.word;simp only[Ty.sz,Nat.reduceAdd]at e0 e1;have DW:=Q1o (n:=(wX (Q5 p k)).length) (by omega);have DX:(0:Int)<=((wX (Q5 p k)).length:Int)-1:=by omega
 have DY:(((wX (Q5 p k)).length:Int)-1).toNat=(wX (Q5 p k)).length-1:=by omega
 have HQ:=qh hq;have DZ:=qh (And.intro i0 i1);have E0:((wX (Q5 p k)).length:Int)-1<(wX (Q5 p k)).length:=by omega
 rw[hq]at O;have AR:=qh O;have CP:=qh (d.small q0 O.1.1 O.1.2);have CQ:=qh (d.small q1 O.2.1 O.2.2);have BD:D (Z4 (mC (pM p)) (q0,q1)=7->0<=aV (xM (mC (pM p)) (q0,q1))/\0<=aL (xM (mC (pM p)) (q0,q1))/\aL (xM (mC (pM p)) (q0,q1))<=1000):=qh (by have:=Q73 d;rw[hq]at this;exact λe=>by have:=this e;omega);have BE:=qh BC;have CR:=qh (AO.kept (Am AN));have CS:=qh AO;have BF:=qh AN;have CT:D (∀b∈pb::P.S.all,A0.heap.size<=b):=qh (λb B=>hS b ((Aq.1 B).elim (λe=>e▸Ae) λh=>Aa _ (Ag _ h)));clear h d A3 hE F i0 i1 O hq BC AO AN hS;have AS:D (Jw (mC (pM p)) (mF (pM p)) l):=qh (J.free);have BG:D ((aW (Q7 (mC (pM p)) q0)).length<=100000000):=qh (by have:=CP.o;omega);have BH:D ((aW (Q7 (mC (pM p)) q1)).length<=100000000):=qh (by have:=CQ.o;omega);have A8:D (l.length<=1000000):=qh (by have:=J.freeLen;have:=List.countP_le_length (p:=λc=>aK c==0) (l:=mC (pM p));have:=J.len;unfold Z3 at *;omega);have E1:(l.length:Int)<=1000000:=by have:=A8.o;omega
 have g:D (Q0k bk (pM p) (Q5 p k)=(if(Zn bk (mC (pM p)) (q0,q1)).2 !=0 then(Zn bk (mC (pM p)) (q0,q1)).2 else if decide ((l.length:Int)+Zm (Z4 (mC (pM p)) (q0,q1))<(Zn bk (mC (pM p)) (q0,q1)).1)||decide (1000000000<=(wC (Q5 p k)).getD (Z4 (mC (pM p)) (q0,q1)-1).toNat 0)then 4 else 0)):=qh (by unfold Q0k;rw[HQ.o,<-J.freeLen]);have AT:D ((Zn bk (mC (pM p)) (q0,q1)).2=0->(Zn bk (mC (pM p)) (q0,q1)).1<=l.length+Zm (Z4 (mC (pM p)) (q0,q1))->(1<=Z4 (mC (pM p)) (q0,q1)/\Z4 (mC (pM p)) (q0,q1)<=7)/\(Z4 (mC (pM p)) (q0,q1)≠7->Qd5 (Z4 (mC (pM p)) (q0,q1)) (xM (mC (pM p)) (q0,q1)) (yM (mC (pM p)) (q0,q1)) l.length)/\(Z4 (mC (pM p)) (q0,q1)=7->Q8y bk (xM (mC (pM p)) (q0,q1)) l.length)):=qh (λe1 e2=>by have hr:=J.rok;rw[HQ.o]at hr;obtain⟨U,h2⟩:=Qg0 bk J.cells hr e1 e2;refine⟨U,h2,λh7=>Qgv h7 e1 ?_ AP (by rw[h7]at e2;exact e2)⟩;have:=Q73 J;rw[HQ.o]at this;exact this h7);have BI:=J.counts;have BJ:0<=Zm (Z4 (mC (pM p)) (q0,q1))/\Zm (Z4 (mC (pM p)) (q0,q1))<=2:=by unfold Zm;split<;>omega
 have E2:=qh AP;have BK:=qh BI;have j:=qh J;clear J AP BI;go_enter func95,ntmps95;go_upto_region 4 with fail
 refine Qq ?_;intro W1 AU;have AV:D (Bi w.heap.size w W1):=qh (by rw[AU];go_grown);have AW:D (W1.heap[w.heap.size]?=R (.cells #[I Z q0,I Z q1] 117 (0,0))):=qh (by rw[AU];exact Bg w _);clear AU e0 e1;obtain⟨⟨x0,x1⟩,-⟩:=Za AW.o;go_upto_region 5 with((go_at_call 142;(with_reducible refine(Qd2 _ _ _ (pM p) (HA.o.kept (Am AV.o)) q0 q1 AR.o BG.o BH.o).mono ?_);rintro e W2 ⟨rfl,B⟩;have A9:=qh (Q0 AV.o B);have AX:=qh (Qe AW.o B);clear B))
 clear x0 x1 AV AW;obtain⟨⟨x0,x1⟩,-⟩:=Za AX.o;go_upto_region 6 with((go_at_call 143;(with_reducible refine(Qkq _ p0 c0 bk _ _ (pM p) (CR.o.kept (Am A9.o)) CN (HA.o.kept (Am A9.o)) q0 q1 AR.o BG.o BH.o BD.o BE.o).mono ?_);rintro e W3 ⟨rfl,B⟩;have A1:=qh (Q0 A9.o B);have CU:=qh (Qe AX.o B);clear B))
 clear x0 x1 A9 AX W2 W1;obtain⟨E,A4⟩:∃E,Z4 (mC (pM p)) (q0,q1)=E:=⟨_,rfl⟩;obtain⟨⟨CV,AY⟩,AA⟩:∃c,Zn bk (mC (pM p)) (q0,q1)=c:=⟨_,rfl⟩;rw[A4,AA]at g AT;rw[A4]at BJ;rw[A4,AA];simp only at g AT⊢;have CW:=qh A4;have E3:=qh AA;clear A4 AA BD;obtain⟨E4,E5⟩:=BJ;have AB:=qh ((Qy.start HP.o).below A1.o);have o:D (pb<w.heap.size):=qh (HP.o.mem.blk.lt);by_cases A5:AY=0
 ·subst A5
  by_cases BL:(l.length:Int)+Zm E<CV
  ·have H:Q0k bk (pM p) (Q5 p k)=4:=by rw[g.o];simp[BL]
   have K:=qh H;clear H;go_wp2_with(first|((go_at_call 144;(with_reducible refine(Q4q _ _ _ (pM p) l (HA.o.kept (Am A1.o)) AS.o A8.o).mono ?_);rintro e W4 ⟨rfl,rfl⟩))|((go_at_call 145;(with_reducible refine(Q5t _ _).mono ?_);rintro e W4 ⟨rfl,rfl⟩))|fail)
   go_ret;exact⟨by rw[K.o]<;>rfl,P,by unfold Q3k;rw[if_neg (by rw[K.o];decide)];exact AB.o⟩
  ·obtain⟨⟨E6,E7⟩,BM,BN⟩:=AT.o rfl (by omega)
   have AZ:=qh (And.intro BM BN);have B0:(E-1).toNat<(wC (Q5 p k)).length:=by rw[BK.o.1];omega
   obtain⟨bc,oc,cc,k4,V,-,-⟩:=AB.o.setN o.o L B0;have B1:(E-1).toNat=E.toNat-1:=by omega
   rw[B1]at V;have A2:=qh B1;have E8:E-1<((wC (Q5 p k)).length:Int):=by omega
   have E9:(0:Int)<=E-1:=by omega
   have BO:D (0<=(wC (Q5 p k)).getD (E-1).toNat 0/\(wC (Q5 p k)).getD (E-1).toNat 0<=1000000000):=qh (by rw[Ab,Ad B0];exact BK.o.2 _ (As _));obtain⟨cv,AC⟩:∃cv,(wC (Q5 p k)).getD (E-1).toNat 0=cv:=⟨_,rfl⟩;rw[AC]at BO g;rw[<-A2.o,AC,A2.o]at V;clear B1;have BP:=qh AC;have EA:=BO.o;clear BM BN AC;by_cases BQ:1000000000<=cv
   ·have H:Q0k bk (pM p) (Q5 p k)=4:=by rw[g.o];simp[BQ]
    have K:=qh H;clear H;go_wp2_with(first|((go_at_call 144;(with_reducible refine(Q4q _ _ _ (pM p) l (HA.o.kept (Am A1.o)) AS.o A8.o).mono ?_);rintro e W4 ⟨rfl,rfl⟩))|((go_at_call 145;(with_reducible refine(Q5t _ _).mono ?_);rintro e W4 ⟨rfl,rfl⟩))|fail)
    go_ret;exact⟨by rw[K.o]<;>rfl,P,by unfold Q3k;rw[if_neg (by rw[K.o];decide)];exact AB.o⟩
   ·have H:Q0k bk (pM p) (Q5 p k)=0:=by rw[g.o];simp[BQ,BL]
    have K:=qh H;obtain⟨⟨x0,x1⟩,-⟩:=Za CU.o;clear H;go_upto_region 10 with(first|((go_at_call 144;(with_reducible refine(Q4q _ _ _ (pM p) l (HA.o.kept (Am A1.o)) AS.o A8.o).mono ?_);rintro e W4 ⟨rfl,rfl⟩))|((go_at_call 145;(with_reducible refine(Q5t _ _).mono ?_);rintro e W4 ⟨rfl,rfl⟩))|fail)
    go_upto_region 11 with((go_at_call 146;(with_reducible refine(Qes _ _ _ (pM p) (HA.o.kept (Am A1.o)) q0 q1 AR.o).mono ?_);rintro e W4 ⟨rfl,B⟩;have BR:=qh (Q0 A1.o B);clear B))
    obtain⟨⟨X,s⟩,u⟩:∃f,Zl (mC (pM p)) (q0,q1)=f:=⟨_,rfl⟩;have x:=Qcl (cs:=mC (pM p)) (q0:=q0) (q1:=q1) (by have:=(Q05 j.o.rok).1;rw[HQ.o]at this;exact this) l (by have:=j.o.nin;rw[HQ.o]at this;exact this);have B2:xM (mC (pM p)) (q0,q1)=Q7 (mC (pM p)) X/\yM (mC (pM p)) (q0,q1)=Q7 (mC (pM p)) s:=by unfold xM yM;rw[u];exact⟨rfl,rfl⟩
    rw[u]at x;rw[u];rw[B2.1,B2.2]at AZ;have y:=qh x;have HF:=qh u;have CX:D (((aD (Q7 (mC (pM p)) X)).length<=1000/\(aW (Q7 (mC (pM p)) X)).length<=1000)/\((aD (Q7 (mC (pM p)) s)).length<=1000/\(aW (Q7 (mC (pM p)) s)).length<=1000)):=qh (by have U:=j.o.small X x.1.1.1 x.1.1.2;have h2:=j.o.small s x.1.2.1 x.1.2.2;omega);have CY:=qh (BF.o.trans (BR.o.mono BF.o.size));have BS:D ((mX (pM p)).length<=1000):=qh (by rw[j.o.mx];simp);have AD:=qh ((Qy.start HP.o).below BR.o);have CZ:=qh j.o.free;have D0:D (∀i,(Yd (Y4 bk (aV (Q7 (mC (pM p)) i)))).length<=1000000):=qh (λi=>by
     unfold Y4;rw[Ab];rcases H:bk[(aV (Q7 (mC (pM p)) i)).toNat]? with _|n
     ·simp[Yd]
     ·have:=Q14 n n.length
      have B:=(BE.o n (List.mem_of_getElem? H)).1;rw[<-Q1r]at this;show(Yd n).length<=_;omega)
    clear x u B2 x0 x1 k4 V;simp only;go_upto_region 12 with((go_at_call 147;(with_reducible refine(Qiy A0 _ CY.o p0 c0 bk CS.o _ _ (pM p) P.S AD.o.pool.mem CT.o E X s l CZ.o y.o.1.1.1 y.o.1.1.2 y.o.1.2.1 y.o.1.2.2 y.o.2.1 y.o.2.2.1 y.o.2.2.2 AZ.o.1 AZ.o.2 CX.o j.o.len.2 BS.o).mono ?_);rintro e G ⟨v',S',l',rfl,F,hl⟩;have AE:=qh F;have AF:=qh hl;clear F hl))
    obtain⟨pv,D1,rfl⟩:=AF.o.form;obtain⟨⟨C,lk⟩,A6⟩:∃r,Jf bk (pM p) E X s=r:=⟨_,rfl⟩;rw[A6]at AE AF;rw[A6];have D2:=qh A6;simp only at AE AF⊢;have z:=qh (AD.o.trans o.o (AD.o.pool.ofMem AE.o));have D3:k<(pW (C,pW p,pA p)).length:=L;obtain⟨pr,cr,Gr,r2,BT,-,D4,BU⟩:=z.o.pool.focR D3;have r2:G.cell? ⟨P.wb,P.wo+k * 5+2,N⟩=R (A pr (wX (Q5 p k)).length cr):=r2;have BV:D (Ow (.slice Q4) G [A pr (wX (Q5 p k)).length cr] (wX (Q5 p k)) Gr):=qh (BT);have D5:=qh BU;obtain⟨px,BW,m4,A3⟩:=AE.o.mem.redexes;have BX:=qh A3;have EB:(wX (Q5 p k)).length<=cr:=by obtain⟨_,_,he,U,_⟩:=J6 BV.o.rd;simp only[List.cons.injEq,Value.slice.injEq,and_true]at he;omega
    have EC:((wX (Q5 p k)).length:Int)-1<=(cr:Int):=by omega
    have D6:D ((mX C).length<=3000000):=qh (by have U:=Qks bk (pM p) E X s;rw[A6]at U;have h2:=D0.o X;have h3:=BS.o;simp only at U;omega);have AG:P.wb<G.heap.size/\pb<G.heap.size/\pb≠P.wb:=by have U:=z.o.pool.wks.blk.lt;have h2:=z.o.pool.mem.blk.lt;have h3:=(z.o.pool.ap.1 P.wb Ae).1;exact⟨U,h2,λe=>h3 e.symm⟩
    have ED:=qh AG;have BY:=λq=>z.o.pool.wks.blk.free q;have D7:D (∀W,Q1 (λc=>c=P.wb) G W->W.cell? ⟨pb,M+4,N⟩=R (A px (mX C).length BW)):=qh (λW u=>Qf u m4 AG.2.2);obtain⟨i0,BZ,C0,C1,C2⟩:=info_parts J4;have D8:=qh (BV.o.rd.init (m:=(wX (Q5 p k)).length-1) (by omega) hx);have D9:=qh (Vv (t:=Q4) (T:=117) G G.heap.size rfl rfl);have C3:D (((wX (Q5 p k)).take ((wX (Q5 p k)).length-1)).length<=1000000):=qh (by rw[List.length_take];omega);have DA:D (([]:List Wd).length+((wX (Q5 p k)).take ((wX (Q5 p k)).length-1)).length<=1000000000):=qh (by have:=C3.o;simp only[List.length_nil];omega);have DB:D (((wX (Q5 p k)).take ((wX (Q5 p k)).length-1)).length+(mX C).length<=1000000000):=qh (by have:=C3.o;have:=D6.o;omega);have C4:=AG.1;have DC:D (∀b∈S'.Fx,¬b=P.wb):=qh (λb B e=>(z.o.pool.ap.1 P.wb Ae).2 (e▸Aa _ (Af _ B)));have OB:D (∀b,(A (R ⟨G.heap.size,0,N⟩) 0 0).ownBlock=R b->G.heap.size<=b):=qh (λb B=>by cases B;exact Aj _);clear BT BU A3 AG A6 D4;have EE:=Qpr;have EF:=Qrd;rw[<-Qpr _ (.tmp 79),<-Qrd _ (.tmp 80) (.tmp 81)]
    go_region_held3(λW=>W.cell? ⟨pb,M+4,N⟩=R (A px (mX C).length BW))
     (((with_reducible refine D7.o _ ?_);(first|with_reducible exact AH.o|with_reducible exact AI.o|with_reducible exact Jl AH.o rfl _|with_reducible exact Q1.drew (Q1.alloc (Q1.refl _ _) _)|with_reducible exact Q1.drew (Q1.refl _ _)|fail)))
     (first|((refine Yp _ rfl (.tmp 76) (.tmp 82) 41 rfl (t:=Q4) (v:=A (R ⟨G.heap.size,0,N⟩) 0 0) (xs:=[]) (ys:=(wX (Q5 p k)).take ((wX (Q5 p k)).length-1)) rfl (by decide) G.heap.size 117 i0 _ 16 underlying41 BZ C0 C1 C2 rfl (by decide) rfl rfl (D9.o.kept (show Bi _ _ _ by go_grown)) (D8.o.kept (Am (by go_grown))) DA.o (by simp) ?_;intro v6 w6 AJ C5;simp only[List.nil_append]at AJ;obtain⟨p6,c6,rfl,-,-⟩:=AJ.form;have B3:=qh AJ;have B4:D (Q1 (λ_=>False) G w6):=qh (Q1.grown (Q1.drew (Q1.alloc (Q1.refl _ G) _)) C5 (λb B=> .inl (OB.o b B)));have AI:=qh (B4.o.mono (Y:=λc=>c=P.wb) (λ_ h=>h.elim));have DD:=AI.o.size;clear AJ C5))|((refine Yp _ rfl (.tmp 83) (.tmp 87) 41 rfl (t:=Q4) (v:=A p6 ((wX (Q5 p k)).take ((wX (Q5 p k)).length-1)).length c6) (xs:=(wX (Q5 p k)).take ((wX (Q5 p k)).length-1)) (ys:=mX C) rfl (by decide) G.heap.size 117 i0 _ 16 underlying41 BZ C0 C1 C2 rfl (by decide) rfl rfl B3.o (BX.o.frame AI.o (λb B=>⟨BX.o.lt b B,DC.o b B⟩)).rd DB.o DD ?_;intro v7 w7 B5 C6;obtain⟨p7,c7,rfl,-,-⟩:=B5.form;have C7:=qh B5;have A7:=qh (B4.o.grown C6 (λb B=> .inl (B3.o.block b B).1));have AH:=qh (A7.o.mono (Y:=λc=>c=P.wb) (λ_ h=>h.elim));have f7:=λq=>(A7.o.frozen C4 (λh=>h) q).trans (BY q);have r7:=(A7.o.cell C4 (λh=>h) (P.wo+k * 5+2)).trans r2;clear B5 C6))|fail)
    all_goals
     refine Qq ?_;intro W8 B6;obtain⟨F7,C8,C9,CA⟩:=C7.o.ow rfl;obtain⟨P8,h8⟩:=D5.o w7 p7 _ c7 _ F7 (A7.o.mono λ_ h=>h.elim) C8 C9 (λb B=> .inr (CA b B).1);have CB:((wX (Q5 p k)).take ((wX (Q5 p k)).length-1)++mX C).length=(wX (Q5 p k)).length-1+(mX C).length:=by rw[List.length_append,List.length_take];omega
     rw[CB]at h8;have B7:D (Qy w P pb M W8 (C,(pW p).set k (J0 (Q5 p k) ((wX (Q5 p k)).take ((wX (Q5 p k)).length-1)++mX C)),pA p) P8):=qh (by rw[B6];exact z.o.trans o.o h8);have DE:=qh h8.fresh.2.2;have DF:D (Q1 (λc=>c=P.wb) G W8):=qh (by rw[B6];exact Jl AH.o rfl _);obtain⟨FL,AK,CC,B8⟩:=AF.o;have DG:=AD.o.fr.size;have CD:=HP.o.lt;have AL:D (∀b∈FL,w.heap.size<=b/\b<G.heap.size/\b∉S'.all):=qh (λb B=>⟨Au DG (B8 b B).1,AK.lt b B,(B8 b B).2⟩);have B9:=qh (AK.frame DF.o (λb B=>⟨AK.lt b B,λe=>by have:=CD P.wb (Aa _ PS.wb_all);have:=(AL.o b B).1;omega⟩));have DH:=qh CC;obtain⟨_,_,-,-,-,-,DI,-,-,-,-⟩:=B7.o.pool.mem.head;have DJ:=λq=>B7.o.pool.mem.blk.free q;clear B6 C8 C9 CA h8 CB AK CC B8 CD m4 r2 BY f7 r7 AH A7 AI B4 B3 C7;go_upto_region 14 with fail
     refine Qq ?_;intro W9 BA;obtain⟨P9,h9,-,-,CE⟩:=B7.o.noX;have a:D (Qy w P pb M W9 ((mC C,mF C,mR C,[]),(pW p).set k (J0 (Q5 p k) ((wX (Q5 p k)).take ((wX (Q5 p k)).length-1)++mX C)),pA p) P9):=qh (by rw[BA];exact h9);have DK:=qh CE;have DL:D (Ow (.slice Qu) W9 [A pv lk.length D1] lk FL):=qh (by rw[BA];exact B9.o.frame (Ze _ _ _ _) (λb B=>⟨B9.o.lt b B,λe=>by have:=o.o;have:=(AL.o b B).1;omega⟩));have CF:k<(pW ((mC C,mF C,mR C,[]),(pW p).set k (J0 (Q5 p k) ((wX (Q5 p k)).take ((wX (Q5 p k)).length-1)++mX C)),pA p)).length:=by show k<((pW p).set k _).length;rw[List.length_set];exact L
     obtain⟨_,_,_,_,_,_,_,_,_,⟨-,-,-,l9,-⟩,-,-,-,-,-,-,-⟩:=a.o.pool.focus CF;have CG:=λq=>a.o.pool.wks.blk.free q;rw[a.o.fresh.1,a.o.fresh.2.1]at l9;rw[a.o.fresh.1]at CG;clear BA h9 CE DI DJ B9;go_upto_region 15 with fail
     refine Qq ?_;intro CH CI;obtain⟨EG,AM,-,-,-,-⟩:=a.o.setL o.o CF DL.o DH.o (λb B=>⟨(AL.o b B).1,λF=>by
      obtain⟨b1,b2,b3⟩:=AL.o b B;have EH:=o.o;rcases Aq.1 F with e|F
      ·omega
      ·rcases DE.o b (DK.o b F)with F|F
       ·rcases At0.1 F with F|F
        ·exact b3 F
        ·have:=HP.o.lt b (Aa _ (Af _ F));omega
       ·omega⟩)
     rw[a.o.fresh.1,a.o.fresh.2.1,Q7h L,Qf6]at AM;rw[<-CI]at AM;have BB:=qh AM;have DM:k<(pW ((mC C,mF C,mR C,[]),(pW p).set k (Q7e (J0 (Q5 p k) ((wX (Q5 p k)).take ((wX (Q5 p k)).length-1)++mX C)) lk),pA p)).length:=by show k<((pW p).set k _).length;rw[List.length_set];exact L
     obtain⟨CJ,CK,DN,k4,V,kf,CL⟩:=BB.o.setN (i:=(E-1).toNat) o.o DM (by rw[Q7h L];exact B0);have DO:=qh CL;rw[BB.o.fresh.1,BB.o.fresh.2.1,Q7h L]at k4;rw[Q7h L]at V;have k4:CH.cell? ⟨P.wb,P.wo+k * 5+4,N⟩=R (A (R ⟨CJ,CK,N⟩) (wC (Q5 p k)).length DN):=k4;have V:CH.cell? ⟨CJ,CK+(E-1).toNat,N⟩=R (I Z ((wC (Q5 p k)).getD (E-1).toNat 0)):=V;rw[BP.o,A2.o]at V;clear CI AM l9 CG CL;go_wp2_with fail
     go_ret;obtain⟨DP,CM,-,-⟩:=DO.o (cv+1) (by unfold Qqm;omega);rw[Q7h L,Qf6,A2.o]at CM;refine⟨by rw[K.o]<;>rfl,DP, ?_⟩;have DQ:Q3k bk p k=((mC C,mF C,mR C,[]),(pW p).set k (Qo4 (Q7e (J0 (Q5 p k) ((wX (Q5 p k)).take ((wX (Q5 p k)).length-1)++mX C)) lk) ((wC (Q5 p k)).set (E.toNat-1) (cv+1))),pA p):=by
      unfold Q3k;rw[if_pos K.o];unfold Qef;rw[HQ.o];have DR:(wC (Q5 p k)).getD (E.toNat-1) 0=cv:=by rw[<-A2.o];exact BP.o
      simp only[CW.o,HF.o,D2.o,A2.o,DR];rfl
     rw[DQ];exact CM
 ·have H:Q0k bk (pM p) (Q5 p k)=AY:=by rw[g.o];simp[A5]
  have K:=qh H;have DS:=qh A5;have EI:(AY !=0)=true:=by simpa using A5
  clear H A5;go_wp2_with fail
  go_ret;exact⟨by rw[K.o]<;>rfl,P,by unfold Q3k;rw[if_neg (by rw[K.o];exact DS.o)];exact AB.o⟩
end Go.Proofs.YthbpkpnioaniiaaGreat
