import Derived.Test.YthbpkpnioaniiaaGreatP37
set_option maxHeartbeats 40000000
set_option maxRecDepth 100000
set_option linter.all false
namespace Go.Proofs.YthbpkpnioaniiaaGreat
open Go.RowKit Go.Proofs.Tryz
open Go.Value renaming int->I,slice->A
open Go.IntKind renaming i64->Z
open Option renaming none->N,some->R
open Bool renaming true->Bn,and_eq_true->Bl
open Go renaming World->Bh,Value->Bk,heap_alloc_new->Bg,maxLen->Bp,Calls->Bq
open Go.RowKit renaming Below->Bi,intOf->Bv
open List renaming foldl_append->De,length_append->Bo
open Nat renaming zero_add->Cd,mul_one->Cb,reduceAdd->Bj
theorem At.box{t:Ty}{w:Bh}{vs:List Bk}{x:t.den}{T:TypeId}(h:Rd t w vs x):At t (w.alloc (.cells vs.toArray T)) w.heap.size 0 x:=
 ⟨vs,h.length,λj B=>Q8 (Bg w _) (by rw[Cd,List.getElem?_toArray,Ad B]),h.kept (Am (by go_grown))⟩
theorem Ow.one: {t:Ty}-> {w:Bh}-> {vs:List Bk}-> {x:t.den}-> {F:List Nat}->Ow t w vs x F->∀u∈vs,u.oneCell'=Bn
 | .int,_,_,_,_,⟨h,_⟩,u,hu=>by rw[h]at hu;rw[Bb.1 hu];rfl
 | .bool,_,_,_,_,⟨h,_⟩,u,hu=>by rw[h]at hu;rw[Bb.1 hu];rfl
 | .pair _ _,_,_,_,_,⟨_,_,_,_,e,_,h1,h2⟩,u,hu=>by rw[e]at hu;exact(At0.1 hu).elim (h1.one u) (h2.one u)
 | .slice _,_,_,_,_,⟨v,e,h⟩,u,hu=>by rw[e]at hu;rw[Bb.1 hu];rcases h with⟨_,_,_,B,_⟩|⟨_,_,_,_,_,_,B,_⟩<;>rw[B]<;>rfl
def J8(bk:List Qr2)(p:J9):List J9×Int:=if Q0u bk && J2 p then(Qfp bk p,0)else([],1)
def Qm7(bk:List Qr2)(p:J9)(w:Bh)(e:Ending)(w':Bh):Prop:=∃v,e=.returned (.tuple #[v,I Z (J8 bk p).2])/\Rd (.slice Qr) w' [v] (J8 bk p).1/\Bi w.heap.size w w'
theorem Qkt{p:J9}{k:Int}(h:k∈Q1b p):0<=k/\k.toNat<(pW p).length:=by
 unfold Q1b at h;obtain⟨j,B,rfl⟩:=List.mem_map.1 h;have:=List.mem_range.1 (List.mem_filter.1 B).1;omega
theorem Qco(p:J9):(Q1b p).length<=(pW p).length:=by
 unfold Q1b;rw[List.length_map];have:=List.length_filter_le (λ(k:Nat)=>wP (Q5 p k) !=4) (List.range (pW p).length);rw[List.length_range]at this;exact this
theorem Qai:(prog.info? 46).map (λi=>(i.zero,i.size,i.bytes))=R (R (Value.agg #[A N 0 0,I Z 0,I Z 0,I Z 0,A N 0 0,A N 0 0,I Z 0]),7,104):=by kernel_rfl
theorem Qoi(w:Bh)(a:Option Addr)(b:Nat)(bk:List Qr2)(AN:Rd (.slice Je) w [A a bk.length b] bk)(BF:bk.length<=Bp)(vs:List Bk)(p:J9)(hp:Rd Qr w vs p)(hz:Qqy Qr p<=2000000):
  Bq prog 6 #[A a bk.length b,.agg vs.toArray] w (Qm7 bk p w):=by
 obtain⟨v0,v1,v2,v3,v4,v5,v6,rfl⟩:=Qg5 hp.length;have AO:=qh AN;have A5:=qh BF;have HZ:=qh hz;have HA:=qh (At.box (T:=46) hp);have AP:=qh (Qel p);clear AN hp hz;go_enter func6,ntmps6;go_upto_region 1 with fail
 refine Qq ?_;intro W0 l;have A6:D (At Qr W0 w.heap.size 0 p):=qh (by rw[l];exact HA.o);have A7:D (Bi w.heap.size w W0):=qh (by rw[l];go_grown);have AQ:D (W0.heap.size=w.heap.size+1):=qh (by rw[l];simp);clear l HA;have AR:=qh (AO.o.kept (Am A7.o));have AS:D ((Z6 (pM p)).length+(Vi (pW p)).length<=10000000):=qh (by have:=AP.o.1;have:=HZ.o;omega);have AT:D ((Qz (pW p)).length<=10000000):=qh (by have:=AP.o.2;have:=HZ.o;omega);cases hok:(Q0u bk && J2 p)with
 |false=>
  have d:D (J8 bk p=([],1)):=qh (by unfold J8;rw[hok];rfl);have A8:D ((if(Q0u bk && J2 p)=Bn then(0:Int)else 1)=1):=qh (by rw[hok];rfl);clear hok;go_upto_region 2 with((go_at_call 20;(with_reducible refine(Qgt _ a b bk _ _ p AR.o A5.o A6.o AS.o AT.o).mono ?_);rintro e w1 ⟨rfl,H⟩;rw[A8.o];have m:=qh H;clear H))
  go_wp2_with fail
  go_ret2
  exact⟨_,by rw[d.o]<;>rfl,by rw[d.o];exact⟨_,rfl,.inl ⟨rfl,rfl⟩⟩,A7.o.trans (m.o.mono (by have:=AQ.o;omega))⟩
 |true=>
  have d:D (J8 bk p=(Qfp bk p,0)):=qh (by unfold J8;rw[hok];rfl);have X:=hok;simp only[Bl]at X;have BG:=qh (Qrg.of X.2);have r:=X.1;unfold Q0u at r;simp only[Bl]at r;have f:∀n∈bk,Ys n=Bn:=Bf.1 r.2;have BH:=qh f;have BI:D (∀n∈bk,Qbv n):=qh (λn F=>(Y5 (f n F)).2.2.2);have AU:D (∀k,Jp (Ye bk p k).2/\(mC (pM (Ye bk p k).2)).length=(mC (pM p)).length/\(pW (Ye bk p k).2).length=(pW p).length):=qh (λk=>Q7c (Qrg.of X.2) (λn F i=>by have:=(Y5 (f n F)).2.2.1 i;omega) (λn F=>by have:=(Y5 (f n F)).1;omega));have A9:D (∀k,mC (pM (Ye bk p k).2)≠ []/\pW (Ye bk p k).2≠ []):=qh (λk=>by obtain⟨-,e1,e2⟩:=AU.o k;obtain⟨n1,n2⟩:=Qfu (Qrg.of X.2);have l1:=Bc.2 n1;have l2:=Bc.2 n2;exact⟨λe=>by rw[e]at e1;simp at e1;omega,λe=>by rw[e]at e2;simp at e2;omega⟩);have CB:(pW p).length<=4:=(Q1d (Qrg.of X.2)).1.2;have A8:D ((if(Q0u bk && J2 p)=Bn then(0:Int)else 1)=0):=qh (by rw[hok];rfl);clear X r f hok;go_upto_region 2 with((go_at_call 20;(with_reducible refine(Qgt _ a b bk _ _ p AR.o A5.o A6.o AS.o AT.o).mono ?_);rintro e w1 ⟨rfl,H⟩;rw[A8.o];have m:=qh H;clear H))
  have BJ:=qh (A6.o.kept (Am m.o));have AV:D (Bi w.heap.size w w1):=qh (A7.o.trans (m.o.mono (by have:=AQ.o;omega)));go_upto_region 5 with fail
  refine Qq ?_;intro s t;have AW:D (Bi w.heap.size w s):=qh (by rw[t];exact AV.o.alloc AV.o.size _);have AX:D (At Qr s w.heap.size 0 p):=qh (by rw[t];exact BJ.o.kept (Am (by go_grown)));have BK:D (Qqa (.slice Qr) w1.heap.size s [A (R ⟨w1.heap.size,0,N⟩) 0 0] []):=qh (⟨[],⟨_,rfl,.inl ⟨rfl,rfl,_,rfl,λx g=>by cases g;rfl⟩⟩,by simp,by simp⟩);have BL:D (w1.heap.size<=s.heap.size):=qh (by rw[t];simp);clear t;have BM:D ((pW p).length<=1000000):=qh (by omega);go_upto_region 6 with((go_at_call 21;(with_reducible refine(Qo8 _ _ _ p AX.o BM.o).mono ?_);rintro e K ⟨v,rfl,ho,H⟩;have AA:=qh ho;have z:=qh H;clear ho H;obtain⟨CC,CD,rfl,-,-⟩:=AA.o.form))
  have AB:D (Bi w.heap.size w K):=qh (AW.o.trans (z.o.mono AW.o.size));have BN:=qh (AX.o.kept (Am z.o));have AY:=qh (BK.o.kept z.o);have BO:=qh (AO.o.kept (Am AB.o));have AZ:=qh (AA.o.rd rfl);have CE:D (w1.heap.size<=K.heap.size):=qh (Au BL.o z.o.size);have B0:D (∀x∈Q1b p,0<=x/\x.toNat<(pW p).length):=qh (λx g=>Qkt g);have B1:=Qco p;have B2:D (Qfp bk p=(Q1b p).foldl (Zr bk p) []):=qh (rfl);obtain⟨L,hL⟩:∃L:List Int,L=Q1b p:=⟨_,rfl⟩;rw[<-hL]at AZ B0 B1 B2;rw[<-hL];clear hL AA;have BP:D (Qqy Qr p<=100000000):=qh (by have:=HZ.o;omega);have CF:L.length<=4:=by omega
  clear B1;go_wp2_with fail
  have AY:D (Qqa (.slice Qr) K.heap.size K [A (R ⟨w1.heap.size,0,N⟩) 0 0] []):=qh (⟨[],⟨_,rfl,.inl ⟨rfl,rfl,_,rfl,λx g=>by cases g;rfl⟩⟩,by simp,by simp⟩);go_loopw [7,9] (λu i wr=>∃(j:Nat) (P:Option Addr) (U:Nat),j<=L.length/\i=I Z j/\u=A P ((L.take j).foldl (Zr bk p) []).length U/\D (Qqa (.slice Qr) K.heap.size wr [A P ((L.take j).foldl (Zr bk p) []).length U] ((L.take j).foldl (Zr bk p) []))/\D (Bi K.heap.size K wr)/\D (((L.take j).foldl (Zr bk p) []).length<=j)) (λ_ i _=>L.length-(Bv i).toNat);case atStart=>exact⟨0,_,_,Ak _,rfl,rfl,AY.o,Ai _ _,Aj _⟩
  case round=>
   obtain⟨j,P,U,hj,rfl,rfl,HN,Y,B3⟩:=hrel;have BQ:=B3.o;by_cases AC:j<L.length
   ·have M:D ((L.take (j+1)).foldl (Zr bk p) []=Zr bk p ((L.take j).foldl (Zr bk p) []) L[j]):=qh (by rw[An AC,De];rfl)
    obtain⟨bb,ob,rfl,hE⟩:=Rd.elem AZ.o j AC;have AD:=B0.o L[j] (As AC);obtain⟨G,B4⟩:∃G:Nat,L[j]=(G:Int):=⟨L[j].toNat,by omega⟩;rw[B4]at hE M AD;obtain⟨g0,-⟩:=At.int hE;simp only[Ty.sz,Cb]at g0;have g0:=(Am Y.o).cell _ _ g0;have B5:G<(pW p).length:=by have:=AD.2;omega
    have BR:=qh B5;obtain⟨C,AE⟩:∃C,(L.take j).foldl (Zr bk p) []=C:=⟨_,rfl⟩;rw[AE]at HN M BQ;rw[AE];have V:D (Zr bk p C (G:Int)=if(Ye bk p G).1==0 && !(C.any λq=>Qqu Qr q (Ye bk p G).2)then C++ [(Ye bk p G).2]else C):=qh (rfl);have B6:=qh (AU.o G).1;have AF:=qh (A9.o G);have CG:(0:Int)<=j:=by omega
    have CH:(j:Int)<L.length:=by omega
    have BS:=qh (BN.o.kept (Am Y.o));have BT:=qh (BO.o.kept (Am Y.o));have BU:=Y.o.size;clear hE AD B4 AE B3 B5;go_upto_region 10 with((go_at_call 22;(with_reducible refine(Qn7 _ a b bk BT.o A5.o BI.o BH.o _ _ p G BS.o BR.o BG.o BP.o).mono ?_);rintro e w5 ⟨CI,rfl,F,H⟩;obtain⟨Pn,CJ,CK,rfl,-⟩:=F.poolShape (A9.o G).1 (A9.o G).2;have AG:=qh F;have B7:=qh H;clear F H))
    refine Qq ?_;intro W6 A0;obtain⟨B8,AH⟩:∃c,(Ye bk p G).1=c:=⟨_,rfl⟩;obtain⟨E,AI⟩:∃c,(Ye bk p G).2=c:=⟨_,rfl⟩;rw[AI]at AG V B6 AF;try rw[AI]at A0
    rw[AH]at V;rw[AH];have AJ:D (At Qr W6 w5.heap.size 0 E):=qh (by rw[A0];exact At.box (let ⟨_,o,_⟩:=AG.o;o.rd));have AK:D (Bi wr.heap.size wr W6):=qh (by rw[A0];exact B7.o.alloc B7.o.size _);have A1:=qh (HN.o.kept AK.o);have CL:=AK.o.size;clear A0 AH AI AG HN g0;have B9:D (Rd (.slice Qr) W6 [A P C.length U] C):=qh (let ⟨_,o,_⟩:=A1.o;o.rd);have BA:D (C.length<=Bp):=qh (by unfold Bp;omega);have A2:D (Bi K.heap.size K W6):=qh (Y.o.trans (AK.o.mono BU));by_cases A3:B8=0
    ·subst A3
     cases hany:C.any λq=>Qqu Qr q E with
     |true=>
      have AL:=qh (Q70 (λx=>Qqu Qr x E) C);have BV:0<=Q9z (λx=>Qqu Qr x E) C:=by have:=AL.o;rw[hany]at this;exact of_decide_eq_true this
      have O:D (Zr bk p C (G:Int)=C):=qh (by rw[V.o,hany];rfl);clear hany V;go_wp2_with((go_at_call 23;(with_reducible refine(Qm0 _ P U C _ _ E B9.o BA.o AJ.o).mono ?_);rintro e w7 ⟨rfl,W⟩;have A4:=qh W.below;clear W))
      go_roundw;case rel=>exact⟨j+1,P,U,by omega,by go_num,by rw[M.o,O.o],(show Qqa _ _ _ _ _ by rw[M.o,O.o];exact A1.o.kept A4.o),(show Bi _ _ _ from A2.o.trans (A4.o.mono (by omega))),(show _<=_ by rw[M.o,O.o];omega)⟩
      case measure=>simp[Bv];omega
     |false=>
      have AL:=qh (Q70 (λx=>Qqu Qr x E) C);have BV:Q9z (λx=>Qqu Qr x E) C<0:=by have:=AL.o;rw[hany]at this;have:=of_decide_eq_false this;omega
      have O:D (Zr bk p C (G:Int)=C++ [E]):=qh (by rw[V.o,hany];rfl);obtain⟨ip,BW,BX,BY,BZ⟩:=info_parts Qai;have C0:=qh B6.o.dsz;have C1:D (C.length+1<=1000000000):=qh (by omega);clear hany V;go_wp2_with(first|((go_at_call 23;(with_reducible refine(Qm0 _ P U C _ _ E B9.o BA.o AJ.o).mono ?_);rintro e w7 ⟨rfl,W⟩;have A4:=qh W.below;have C2:=qh (AJ.o.kept (Am W.below));have C3:=qh (A1.o.kept W.below);have AM:D (K.heap.size<=w7.heap.size):=qh (Au A2.o.size W.below.size);clear W))|((go_at_call 24;(with_reducible refine(Qbi _ _ _ E C2.o C0.o).mono ?_);rintro e w8 ⟨CM,rfl,F,H⟩;obtain⟨J,BB,BC,rfl,-⟩:=F.poolShape AF.o.1 AF.o.2;have C4:=qh F;have h:=qh H;have C5:D (∀u∈([A (R ⟨J.S.cb,J.S.o,N⟩) (mC (pM E)).length J.S.cap,I Z (mF (pM E)),I Z (mR (pM E)).1,I Z (mR (pM E)).2,A BB (mX (pM E)).length BC,A (R ⟨J.wb,J.wo,N⟩) (pW E).length J.wcap,I Z (pA E)]:List Bk),u.oneCell'=Bn):=qh (let ⟨_,o,_⟩:=F;o.one);clear F H))|(at_builtin;refine Q0p _ rfl (.tmp 41) (.tmp 43) 34 rfl (e:=Qr) 46 ip _ 104 underlying34 BW BX BY BZ rfl (by decide) (B:=K.heap.size) w7 (v:=A P C.length U) (xs:=C) (y:=E) (vs:=[A (R ⟨J.S.cb,J.S.o,N⟩) (mC (pM E)).length J.S.cap,I Z (mF (pM E)),I Z (mR (pM E)).1,I Z (mR (pM E)).2,A BB (mX (pM E)).length BC,A (R ⟨J.wb,J.wo,N⟩) (pW E).length J.wcap,I Z (pA E)]) w8.heap.size 1 rfl rfl C3.o AM.o (h.o.alloc h.o.size _) (C4.o.kept (Below.alloc (Ai _ _) (Aj _) _)) (λjj C6=>Q8 (Bg w8 _) (by rw[Cd,List.getElem?_toArray];exact Ad C6)) C5.o C1.o ?_;intro p9 c9 w9 BD BE;have C7:=qh BD;have C8:=qh BE;clear BD BE)|fail)
      go_roundw;case rel=>exact⟨j+1,p9,c9,by omega,by go_num,by rw[M.o,O.o,Bo];rfl,(show Qqa _ _ _ _ _ by rw[M.o,O.o,Bo];exact C7.o),(show Bi _ _ _ from(A2.o.trans (A4.o.mono (by omega))).trans (((h.o.alloc h.o.size _).mono AM.o).trans (C8.o.below (by have:=h.o.size;have:=AM.o;simp;omega) (λi hi=>hi.1)))),(show _<=_ by rw[M.o,O.o,Bo];simp;omega)⟩
      case measure=>simp[Bv];omega
    ·have O:D (Zr bk p C (G:Int)=C):=qh (by rw[V.o];simp[A3])
     have CN:(B8==0)=false:=by simpa using A3
     clear A3 V;go_wp2_with fail
     go_roundw;case rel=>exact⟨j+1,P,U,by omega,by go_num,by rw[M.o,O.o],(show Qqa _ _ _ _ _ by rw[M.o,O.o];exact A1.o),A2.o,(show _<=_ by rw[M.o,O.o];omega)⟩
     case measure=>simp[Bv];omega
   ·have C9:L.length<=j:=by omega
    have CA:D (L.take j=L):=qh (Ao C9);go_wp2_with fail
    go_ret2
    refine⟨_,by rw[d.o]<;>rfl, ?_,AB.o.trans (Y.o.mono AB.o.size)⟩;rw[d.o];show Rd (.slice Qr) _ _ (Qfp bk p);rw[B2.o];have F:=HN.o;rw[CA.o]at F⊢;exact let ⟨_,o,_⟩:=F;o.rd
def Qje(bk:List Qr2)(p:J9)(w:Bh)(e:Ending)(w':Bh):Prop:=∃v,e=.returned (.tuple #[v,I Z (J8 bk p).2])/\Qqa (.slice Qr) w.heap.size w' [v] (J8 bk p).1/\Bi w.heap.size w w'
theorem Qjq(w:Bh)(a:Option Addr)(b:Nat)(bk:List Qr2)(AL:Rd (.slice Je) w [A a bk.length b] bk)(BH:bk.length<=Bp)(vs:List Bk)(p:J9)(hp:Rd Qr w vs p)(hz:Qqy Qr p<=2000000):
  Bq prog 9 #[A a bk.length b,.agg vs.toArray] w (Qje bk p w):=by
 obtain⟨m,v1,r,s,t,z,v6,rfl⟩:=Qg5 hp.length;have AM:=qh AL;have BI:=qh BH;have HZ:=qh hz;have AN:=qh hp;have AO:=qh (Qel p);have AP:D (Vg prog 32):=qh (by intro _ _;kernel_rfl);clear AL hp hz;go_enter func9,ntmps9;go_upto_region 1 with fail
 refine Qq ?_;intro W0 A0;have AQ:D (W0.heap[w.heap.size]?=R (.cells #[m,v1,r,s,t,z,v6] 46 (0,0))):=qh (by rw[A0];exact Bg w _);have d:D (Bi w.heap.size w W0):=qh (by rw[A0];go_grown);have AR:D (W0.heap.size=w.heap.size+1):=qh (by rw[A0];simp);have BJ:D (At Qr W0 w.heap.size 0 p):=qh (At.ofBox (us:=[m,v1,r,s,t,z,v6]) AQ.o (AN.o.kept (Am d.o)));clear A0;obtain⟨a0,W,a2,a3,a4,a5,a6⟩:=Q2t AQ.o;have AS:=qh (AM.o.kept (Am d.o));have AT:=qh (AN.o.kept (Am d.o));have AU:D ((Z6 (pM p)).length+(Vi (pW p)).length<=10000000):=qh (by have:=AO.o.1;have:=HZ.o;omega);have AV:D ((Qz (pW p)).length<=10000000):=qh (by have:=AO.o.2;have:=HZ.o;omega);cases hok:(Q0u bk && J2 p)with
 |false=>
  have f:D (J8 bk p=([],1)):=qh (by unfold J8;rw[hok];rfl);have BK:=qh hok;clear hok;go_upto_region 2 with((go_at_call 28;(with_reducible refine(Q6f _ a b bk [m,v1,r,s,t,z,v6] p AS.o AT.o AU.o AV.o).mono ?_);rintro e w1 ⟨rfl,E⟩;rw[BK.o];have A1:=qh E;clear E))
  go_wp2_with fail
  go_ret2
  exact⟨_,by rw[f.o]<;>rfl,by rw[f.o];exact Qqa.nil _ _,d.o.trans (A1.o.mono (by have:=AR.o;omega))⟩
 |true=>
  have f:D (J8 bk p=(Qfp bk p,0)):=qh (by unfold J8;rw[hok];rfl);have BL:=qh hok;have g:=hok;simp only[Bl]at g;have BM:=qh (Qrg.of g.2);have A2:=g.1;unfold Q0u at A2;simp only[Bl]at A2;have A8:∀n∈bk,Ys n=Bn:=Bf.1 A2.2;have BN:=qh A8;have BO:D (∀n∈bk,Qbv n):=qh (λn P=>(Y5 (A8 n P)).2.2.2);have CB:(pW p).length<=4:=(Q1d (Qrg.of g.2)).1.2;clear g A2 A8 hok;go_upto_region 3 with((go_at_call 28;(with_reducible refine(Q6f _ a b bk [m,v1,r,s,t,z,v6] p AS.o AT.o AU.o AV.o).mono ?_);rintro e w1 ⟨rfl,E⟩;rw[BL.o];have A1:=qh E;clear E))
  have AW:=qh (BJ.o.kept (Am A1.o));have BP:D (Bi w.heap.size w w1):=qh (d.o.trans (A1.o.mono (by have:=AR.o;omega)));have BQ:D ((pW p).length<=1000000):=qh (by omega);clear a0 W a2 a3 a4 a5 a6;go_wp2_with((go_at_call 29;(with_reducible refine(Qor _ _ _ p AW.o BQ.o).mono ?_);rintro e J ⟨v,rfl,ho,E⟩;have A9:=qh ho;have AX:=qh E;clear ho E;obtain⟨CC,CD,rfl,-,-⟩:=A9.o.form))
  have A3:D (Bi w.heap.size w J):=qh (Q0 BP.o AX.o);have BR:=qh (AW.o.kept (Am AX.o));have BS:=qh (AM.o.kept (Am A3.o));have AY:=qh (A9.o.rd rfl);have AZ:D (∀x∈Q1b p,0<=x/\x.toNat<(pW p).length):=qh (λx hx=>Qkt hx);have B0:=Qco p;have B1:D (Qfp bk p=(Q1b p).foldl (Zr bk p) []):=qh (rfl);obtain⟨L,hL⟩:∃L:List Int,L=Q1b p:=⟨_,rfl⟩;rw[<-hL]at AY AZ B0 B1;rw[<-hL];clear hL A9;have CE:L.length<=4:=by omega
  clear B0;go_loopw [6,17] (λu i wr=>∃(j:Nat) (S:Option Addr) (T:Nat),j<=L.length/\i=I Z j/\u=A S ((L.take j).foldl (Zr bk p) []).length T/\D (Qqa (.slice Qr) J.heap.size wr [A S ((L.take j).foldl (Zr bk p) []).length T] ((L.take j).foldl (Zr bk p) []))/\D (Bi J.heap.size J wr)/\D (((L.take j).foldl (Zr bk p) []).length<=j)) (λ_ i _=>L.length-(Bv i).toNat);case atStart=>exact⟨0,_,_,Ak _,rfl,rfl,Qqa.nil _ _,Ai _ _,Aj _⟩
  case round=>
   obtain⟨j,S,T,hj,rfl,rfl,HN,X,B2⟩:=hrel;have BT:=B2.o;by_cases AA:j<L.length
   ·have G:D ((L.take (j+1)).foldl (Zr bk p) []=Zr bk p ((L.take j).foldl (Zr bk p) []) L[j]):=qh (by rw[An AA,De];rfl)
    obtain⟨bb,ob,rfl,hE⟩:=Rd.elem AY.o j AA;have AB:=AZ.o L[j] (As AA);obtain⟨F,B3⟩:∃F:Nat,L[j]=(F:Int):=⟨L[j].toNat,by omega⟩;rw[B3]at hE G AB;obtain⟨h,-⟩:=At.int hE;simp only[Ty.sz,Cb]at h;have h:=(Am X.o).cell _ _ h;have B4:F<(pW p).length:=by have:=AB.2;omega
    have BU:=qh B4;obtain⟨C,AC⟩:∃C,(L.take j).foldl (Zr bk p) []=C:=⟨_,rfl⟩;rw[AC]at HN G BT;rw[AC];have K:D (Zr bk p C (F:Int)=if(Ye bk p F).1==0 && !(C.any λq=>Qqu Qr q (Ye bk p F).2)then C++ [(Ye bk p F).2]else C):=qh (rfl);have CF:(0:Int)<=j:=by omega
    have CG:(j:Int)<L.length:=by omega
    have BV:=qh (BR.o.kept (Am X.o));have BW:=qh (BS.o.kept (Am X.o));have B5:=X.o.size;clear hE AB B3 AC B2 B4;go_upto_region 8 with((go_at_call 30;(with_reducible refine(Qnm _ a b bk BW.o BI.o BO.o BN.o _ _ p F BV.o BU.o BM.o).mono ?_);rintro e Y ⟨q1,n1,c1,f1,t1,W,q2,n2,c2,q3,n3,c3,A4,rfl,P,E⟩;have B6:=qh P;have B7:=qh E;clear P E))
    refine Qq ?_;intro M AD;have AE:D (M.heap[Y.heap.size]?=R (.cells #[A q1 n1 c1,I Z f1,I Z t1,I Z W,A q2 n2 c2,A q3 n3 c3,I Z A4] 46 (0,0))):=qh (by rw[AD];exact Bg Y _);have AF:D (Bi Y.heap.size Y M):=qh (by rw[AD];go_grown);have A5:D (Bi wr.heap.size wr M):=qh (Q0 B7.o AF.o);have AG:=qh (HN.o.kept A5.o);have BX:=A5.o.size;have CH:=Zb AE.o;have CI:=qh B7.o.size;clear AD h;obtain⟨B8,A6⟩:∃c,(Ye bk p F).1=c:=⟨_,rfl⟩;obtain⟨O,AH⟩:∃c,(Ye bk p F).2=c:=⟨_,rfl⟩;rw[AH,A6]at B6;rw[AH]at K;rw[A6]at K;rw[A6];clear A6 AH;have B9:D (Rd (.slice Qr) M [A S C.length T] C):=qh (let ⟨_,o,_⟩:=AG.o;o.rd);have AI:D (Bi J.heap.size J M):=qh (X.o.trans (A5.o.mono B5));by_cases A7:B8=0
    ·subst A7
     have BA:=qh (B6.o rfl);have BY:D (At Qr M Y.heap.size 0 O):=qh (At.ofBox (us:=[A q1 n1 c1,I Z f1,I Z t1,I Z W,A q2 n2 c2,A q3 n3 c3,I Z A4]) AE.o (let ⟨_,o,_⟩:=BA.o.kept AF.o;o.rd));have BB:D (∀(U:Bh) (vs:List Bk) (x:J9),x∈C->Bi M.heap.size M U->Rd Qr U vs x->Bq prog 32 (#[.agg vs.toArray]++ #[.pointer (R ⟨Y.heap.size,0,N⟩)]) U λe w'=>e=.returned (.bool (Qqu Qr x O))/\Bi U.heap.size U w'):=qh (λU vs x _ E hr=>Qma U vs _ x O hr (BY.o.kept (Am E)));cases hany:C.any λq=>Qqu Qr q O with
     |true=>
      have AJ:=qh hany;have H:D (Zr bk p C (F:Int)=C):=qh (by rw[K.o,hany];rfl);clear hany K;go_wp2_with((go_at_call 31;(with_reducible refine(Q5j _ _ C (λq=>Qqu Qr q O) _ _ B9.o AP.o BB.o).mono ?_);rintro e k ⟨rfl,l⟩;rw[AJ.o];have V:=qh l;clear l))
      go_roundw;case rel=>exact⟨j+1,S,T,by omega,by go_num,by rw[G.o,H.o],(show Qqa _ _ _ _ _ by rw[G.o,H.o];exact AG.o.kept V.o),(show Bi _ _ _ from AI.o.trans (V.o.mono (by omega))),(show _<=_ by rw[G.o,H.o];omega)⟩
      case measure=>simp[Bv];omega
     |false=>
      have AJ:=qh hany;have H:D (Zr bk p C (F:Int)=C++ [O]):=qh (by rw[K.o,hany];rfl);obtain⟨ip,BZ,C0,C1,C2⟩:=info_parts Qai;have C3:D (C.length+1<=1000000000):=qh (by omega);clear hany K;go_upto_region 9 with((go_at_call 31;(with_reducible refine(Q5j _ _ C (λq=>Qqu Qr q O) _ _ B9.o AP.o BB.o).mono ?_);rintro e k ⟨rfl,l⟩;rw[AJ.o];have V:=qh l;clear l))
      have C4:=qh (Qe AE.o V.o);obtain⟨h,g1,g2,g3,g4,g5,g6⟩:=Q2t C4.o;have BC:=qh (BA.o.kept (Q0 AF.o V.o));have BD:D (Bi J.heap.size J k):=qh (AI.o.trans (V.o.mono (by omega)));have BE:D (Bi wr.heap.size wr k):=qh (A5.o.trans (V.o.mono BX));have AK:=qh (And.intro BE.o.size BD.o.size);have C5:D (∀u∈([A q1 n1 c1,I Z f1,I Z t1,I Z W,A q2 n2 c2,A q3 n3 c3,I Z A4]:List Bk),u.oneCell'=Bn):=qh (let ⟨_,o,_⟩:=BC.o;o.one);go_wp2_with(at_builtin;refine Q0p _ rfl (.tmp 35) (.tmp 37) 34 rfl (e:=Qr) 46 ip _ 104 underlying34 BZ C0 C1 C2 rfl (by decide) (B:=J.heap.size) wr (v:=A S C.length T) (xs:=C) (y:=O) (vs:=[A q1 n1 c1,I Z f1,I Z t1,I Z W,A q2 n2 c2,A q3 n3 c3,I Z A4]) k.heap.size 1 rfl rfl HN.o B5 (BE.o.alloc AK.o.1 _) (BC.o.kept (Below.alloc (Ai _ _) (Aj _) _)) (λjj C6=>Q8 (Bg k _) (by rw[Cd,List.getElem?_toArray,Ad C6])) C5.o C3.o ?_;intro p9 c9 w9 BF BG;have C7:=qh BF;have C8:=qh BG;clear BF BG)
      go_roundw;case rel=>exact⟨j+1,p9,c9,by omega,by go_num,by rw[G.o,H.o,Bo];rfl,(show Qqa _ _ _ _ _ by rw[G.o,H.o,Bo];exact C7.o),(show Bi _ _ _ from(BD.o.alloc AK.o.2 _).trans (C8.o.below (by have:=AK.o;simp;omega) (λi hi=>hi.1))),(show _<=_ by rw[G.o,H.o,Bo];simp;omega)⟩
      case measure=>simp[Bv];omega
    ·have H:D (Zr bk p C (F:Int)=C):=qh (by rw[K.o];simp[A7])
     have CJ:(B8==0)=false:=by simpa using A7
     clear A7 K;go_wp2_with fail
     go_roundw;case rel=>exact⟨j+1,S,T,by omega,by go_num,by rw[G.o,H.o],(show Qqa _ _ _ _ _ by rw[G.o,H.o];exact AG.o),AI.o,(show _<=_ by rw[G.o,H.o];omega)⟩
     case measure=>simp[Bv];omega
   ·have C9:L.length<=j:=by omega
    have CA:D (L.take j=L):=qh (Ao C9);go_wp2_with fail
    go_ret2
    refine⟨_,by rw[f.o]<;>rfl, ?_,A3.o.trans (X.o.mono A3.o.size)⟩;rw[f.o];show Qqa (.slice Qr) _ _ _ (Qfp bk p);rw[B1.o];have P:=HN.o;rw[CA.o]at P⊢;exact P.lo A3.o.size
def Qq1{α:Type}(rd:List Bk->α->Prop)(sz:Nat)(w:Bh)(v:Bk)(xs:List α):Prop:=
 ∃(p:Option Addr) (cap:Nat),v=A p xs.length cap/\xs.length<=cap/\xs.length<=Bp/\
  ∀(i:Nat) (h:i<xs.length),∃b o,p=R ⟨b,o,N⟩/\∃cs,cs.length=sz/\Qqw w b (o+i * sz) cs/\rd cs xs[i]
def Rx:(t:Ty)->Bh->List Bk->t.den->Prop
 | .int,_,vs,n=>vs=[I Z n]/\Qqm n
 | .bool,_,vs,b=>vs=[.bool b]
 | .pair a b,w,vs,x=>∃v1 v2,vs=v1++v2/\Rx a w v1 x.1/\Rx b w v2 x.2
 | .slice e,w,vs,xs=>∃v,vs=[v]/\Qq1 (Rx e w) e.sz w v xs
theorem Rx.length: {t:Ty}-> {w:Bh}-> {vs:List Bk}-> {x:t.den}->Rx t w vs x->vs.length=t.sz
 | .int,_,_,_,h=>by simp[h.1,Ty.sz]
 | .bool,_,vs,b,h=>by have B:vs=[.bool b]:=h;simp[B,Ty.sz]
 | .pair _ _,_,_,_,⟨_,_,e,h1,h2⟩=>by simp[e,Ty.sz,h1.length,h2.length]
 | .slice _,_,_,_,⟨_,e,_⟩=>by simp[e,Ty.sz]
theorem Rx.kept: {t:Ty}-> {w w':Bh}-> {vs:List Bk}-> {x:t.den}->Rx t w vs x->Qcx w w'->Rx t w' vs x
 | .int,_,_,_,_,h,_=>h
 | .bool,_,_,_,_,h,_=>h
 | .pair _ _,_,_,_,_,⟨v1,v2,e,h1,h2⟩,k=>⟨v1,v2,e,h1.kept k,h2.kept k⟩
 | .slice _,_,_,_,_,⟨v,e,p,cap,hv,h1,h2,hx⟩,k=>⟨v,e,p,cap,hv,h1,h2,λi B=>by obtain⟨b,o,C,cs,E,F,G⟩:=hx i B;exact⟨b,o,C,cs,E,F.kept k,G.kept k⟩⟩
theorem Q0d{e:Ty}{w:Bh}{vs:List Bk}{xs:List e.den}(h:Rx (.slice e) w vs xs):∃d,vs=[d]/\Rx (.slice e) w [d] xs:=by
 obtain⟨d,rfl,h⟩:=h;exact⟨d,rfl,d,rfl,h⟩
theorem Q41{e:Ty}{w:Bh}{v:Bk}{xs:List e.den}(h:Rx (.slice e) w [v] xs):Qq1 (Rx e w) e.sz w v xs:=by
 obtain⟨d,e,h⟩:=h;obtain rfl:v=d:=by simpa using e
 exact h
abbrev Qq7(f:Nat)(t:Ty):Prop:=∀(w:Bh) (vs:List Bk) (x:t.den) (left:Int),Rx t w vs x->0<=left->left<=1048576->Bq prog f #[.agg vs.toArray,I Z left] w λe w'=>e=.returned (I Z (Qqs left (Qqy t x)))/\Bi w.heap.size w w'
abbrev Qqx(f:Nat)(t:Ty):Prop:=∀(w:Bh) (v:Bk) (x:t.den) (left:Int),Rx t w [v] x->0<=left->left<=1048576->Bq prog f #[v,I Z left] w λe w'=>e=.returned (I Z (Qqs left (Qqy t x)))/\Bi w.heap.size w w'
theorem Qq7.yes{f:Nat}{t:Ty}(H:Qq7 f t)(w:Bh)(vs:List Bk)(x:t.den)(left:Int)(h:Rx t w vs x)(B:0<=left)(C:left<=1048576)(E:(Qqy t x:Int)<=left):Bq prog f #[.agg vs.toArray,I Z left] w λe w'=>e=.returned (I Z (left-Qqy t x))/\Bi w.heap.size w w':=
 (H w vs x left h B C).mono λe w' ⟨F,hb⟩=>⟨by rw[F,Q1j E],hb⟩
theorem Qq7.no{f:Nat}{t:Ty}(H:Qq7 f t)(w:Bh)(vs:List Bk)(x:t.den)(left:Int)(h:Rx t w vs x)(B:0<=left)(C:left<=1048576)(E:¬(Qqy t x:Int)<=left):Bq prog f #[.agg vs.toArray,I Z left] w λe w'=>e=.returned (I Z (-1))/\Bi w.heap.size w w':=
 (H w vs x left h B C).mono λe w' ⟨F,hb⟩=>⟨by rw[F,Q0z E],hb⟩
theorem Qqx.yes{f:Nat}{t:Ty}(H:Qqx f t)(w:Bh)(v:Bk)(x:t.den)(left:Int)(h:Rx t w [v] x)(B:0<=left)(C:left<=1048576)(E:(Qqy t x:Int)<=left):Bq prog f #[v,I Z left] w λe w'=>e=.returned (I Z (left-Qqy t x))/\Bi w.heap.size w w':=
 (H w v x left h B C).mono λe w' ⟨F,hb⟩=>⟨by rw[F,Q1j E],hb⟩
theorem Qqx.no{f:Nat}{t:Ty}(H:Qqx f t)(w:Bh)(v:Bk)(x:t.den)(left:Int)(h:Rx t w [v] x)(B:0<=left)(C:left<=1048576)(E:¬(Qqy t x:Int)<=left):Bq prog f #[v,I Z left] w λe w'=>e=.returned (I Z (-1))/\Bi w.heap.size w w':=
 (H w v x left h B C).mono λe w' ⟨F,hb⟩=>⟨by rw[F,Q0z E],hb⟩
theorem Q8l:(Qq7 83 Q3->Qqx 45 (.slice Q3))/\(Qq7 84 Q3->Qqx 46 (.slice Q3))/\(Qq7 17 Je->Qqx 4 (.slice Je))/\(Qq7 48 Qc->Qqx 19 (.slice Qc)):=by
 refine⟨?_, ?_, ?_, ?_⟩
 all_goals
  intro H w v xs left h h0 L;obtain⟨p,g,rfl,j,X,M⟩:=Q41 h;clear h;unfold Bp at X;have O:=qh H;have Y:=qh M;clear H M;by_cases n:(xs.length:Int)<=left
 all_goals(first|(go_enter func45,ntmps45)|(go_enter func46,ntmps46)|(go_enter func4,ntmps4)|(go_enter func19,ntmps19))
 all_goals go_wp2
 all_goals first
  |(go_ret;exact⟨Qm (by rw[Q0a,Q0z (by omega)]),Ai _ _⟩)
  |skip
 all_goals
  go_loopw [1,5] (λl i wr=>∃k:Nat,k<=xs.length/\i=I Z k/\l=I Z (left-xs.length-(Q6e _ (xs.take k):Nat))/\((xs.length:Int)+(Q6e _ (xs.take k):Nat)<=left)/\Bi w.heap.size w wr) (λ_ i _=>xs.length-(Bv i).toNat);case atStart=>exact⟨0,Ak _,rfl,by simp[Q6e],by simp[Q6e];omega,Ai _ _⟩
  case round=>
   obtain⟨k,q,rfl,rfl,a,P⟩:=hrel;have F:=Q7v (e:=_) xs k;by_cases S:k<xs.length
   ·obtain⟨b,o,rfl,cs,G,B,J⟩:=Y.o k S
    have T:=Q4g (e:=_) S;have E:=qh T;clear T;generalize hxk:xs[k]=x at J E;have r:=qh hxk;clear hxk;generalize Q6e _ (xs.take k)=m at *
    have U:=qh J;clear J;have B:=B.kept (Am P)
    first
     |(obtain⟨c,s,t,u,y,rfl⟩:=Qi8 G;simp only[Ty.sz,Cb,Bj]at B;obtain⟨d,z,c2,c3,c4⟩:=Q4b B)
     |(obtain⟨c,rfl⟩:=Qe4 G;simp only[Ty.sz,Cb,Bj]at B;have d:=Qac B)
    clear B F G;go_wp2_with fail
    by_cases V:(Qqy _ x:Int)<=left-xs.length-m
    ·refine(O.o.yes _ _ _ _ (Rx.kept U.o (Am (by go_grown))) (by omega) (by omega) V).mono ?_
     rintro e w1 ⟨rfl,C⟩;have K:Bi w.heap.size w w1:=Q0 (by go_grown) C;clear C;go_wp2;go_roundw;case rel=>exact⟨k+1,by omega,by go_num,by rw[E.o];go_num,by rw[E.o];omega,K⟩
     case measure=>simp[Bv];omega
    ·refine(O.o.no _ _ _ _ (Rx.kept U.o (Am (by go_grown))) (by omega) (by omega) V).mono ?_
     rintro e w1 ⟨rfl,C⟩;have K:Bi w.heap.size w w1:=Q0 (by go_grown) C;clear C;go_wp2;go_ret;have F:=Q7v (e:=_) xs (k+1);exact⟨Qm (by rw[Q0a,Q0z (by rw[E.o]at F;omega)]),K⟩
   ·have L:xs.length<=k:=by omega
    have W:=qh (Qko (e:=_) L);have f:=a;rw[W.o]at f;go_wp2;go_ret;exact⟨Qm (by rw[W.o,Q0a,Q1j (by omega)];omega),P⟩
end Go.Proofs.YthbpkpnioaniiaaGreat
