import Derived.Test.YthbpkpnioaniiaaGreatP11
import Derived.Test.YthbpkpnioaniiaaGreatP12
set_option maxHeartbeats 40000000
set_option maxRecDepth 100000
set_option linter.all false
namespace Go.Proofs.YthbpkpnioaniiaaGreat
open Go.RowKit Go.Proofs.Tryz
open Go.Value renaming int->I,slice->A
open Go.IntKind renaming i64->Z
open Option renaming none->N,some->R
open Bool renaming true->Bn,and_eq_true->Bl,false->Bm
open Go renaming madeCells->Dh,World->Bh,heap_alloc_new->Bg,Calls->Bq
open Go.RowKit renaming Below->Bi,intOf->Bv
open List renaming range->Bz,replicate->Cl,length_replicate->Ec,length_take->Cj
def Q0v(c:Qb):Int:=if aK c==0 then 0 else if aK c==13 && ((aW c).length:Int)==0 then 2 else 1
def Qi6(cs:List Qb)(ws rs:List Wd):Bool:=(Bz cs.length).all λi=>((Jg ws rs i:Nat):Int)==Q0v (Qn cs i)
theorem Qlq:(prog.info? 3).map (λi=>(i.zero,i.size,i.bytes))=R (R (I Z 0),1,8):=by kernel_rfl
theorem Qe0(n:Nat):(Dh (I Z 0).cells n).toList=Q8p .int (Cl n (0:Int)):=by
 have B:(I Z 0).cells=#[I Z 0]:=by rfl
 rw[B,Q76];unfold Dh;apply List.ext_getElem
 ·simp
 ·intro i C E
  simp[Nat.mod_one]
theorem Qd8(w:Bh)(T:TypeId)(n:Nat)(E:n<=1000000000):Qqe .int T w.heap.size (w.alloc (.cells (Dh (I Z 0).cells n) T)) (A (R ⟨w.heap.size,0,N⟩) n n) (Cl n (0:Int)):=by
 have h:=Qqe.of_block (t:=.int) (e:=T) (B:=w.heap.size) (xs:=Cl n (0:Int)) (Bg w (.cells (Dh (I Z 0).cells n) T)) (Aj _) rfl (Qe0 n) (λx C=>by rw[List.eq_of_mem_replicate C];show Qqm 0;unfold Qqm;omega) (by rw[Ec];unfold maxLen;omega);rw[Ec]at h;exact h
theorem Qho(w:Bh)(n:Nat)(H:n<=1000000000):(Instr.makeSlice 257 (I Z (n:Int)) (I Z (n:Int))).run prog w=.ok (A (R ⟨w.heap.size,0,N⟩) n n) (w.alloc (.cells (Dh (I Z 0).cells n) 3)):=by
 obtain⟨B,C,E,F,G⟩:=info_parts Qlq;have:=run_make (P:=prog) w 257 3 B (I Z 0) underlying257 C E Z Z (n:Int) (n:Int) (by omega) (by omega) (by rw[G];omega) (by omega);rw[F]at this;simpa using this
theorem OwnI.blk{e:TypeId}{B:Nat}{w:Bh}{xs:List Int}{g n c:Nat}(h:Qqe .int e B w (A (R ⟨g,0,N⟩) n c) xs)(E:0<xs.length):Q0f w g e:=by
 obtain⟨G,H,C,-,-,F,-⟩:=OwnI.head h E;simp only[Value.slice.injEq,Option.some.injEq,Addr.mk.injEq,and_true]at C;rw[C.1];exact F
theorem Qkz(w:Bh)(b o:Nat)(m:Qqp)(held:List Wd)(ph:Option Addr)(ch:Nat)(h:At Qo w b o m)(hh:Rd (.slice Q4) w [A ph held.length ch] held)(hz:(Z6 m).length+held.length<=10000000)(AW:1<=(mC m).length)(AX:(mC m).length<=1500)(AY:(mX m).length<=1500)
  (A5:∀x∈Z6 m++held,Zh (mC m) x=Bn) (AZ:∀p∈mX m,Zx (mC m) p=Bn):
  Bq prog 171 #[.pointer (R ⟨b,o,N⟩),A ph held.length ch] w λe w'=>e=.returned (.bool (Qi6 (mC m) (Z6 m++held) (mX m)))/\Bi w.heap.size w w':=by
 have HM:=qh h;obtain⟨M,hM⟩:∃M,M=m:=⟨_,rfl⟩;obtain⟨cs,f,⟨rt,ra⟩,xs⟩:=m;obtain⟨pc,cc,px,cx,⟨m0,-,-,-,m4⟩,-,⟨-,-,B0⟩,⟨BO,-,B1⟩⟩:=h.mem;have AX:cs.length<=1500:=AX;have AW:1<=cs.length:=AW;have AY:xs.length<=1500:=AY;obtain⟨G,AG⟩:∃x,x=Z6 (cs,f,(rt,ra),xs)++held:=⟨_,rfl⟩;have B9:D (G.length<=10000000):=qh (by rw[AG,List.length_append];exact hz);have HZ:D ((Z6 (cs,f,(rt,ra),xs)).length<=100000000/\(Z6 (cs,f,(rt,ra),xs)).length+held.length<=1000000000):=qh (by omega);have BA:=qh AG;have BB:D (∀x∈G,Zh cs x=Bn):=qh (by rw[AG];exact A5);have BC:D (∀p∈xs,Zx cs p=Bn):=qh (AZ);have HC:=qh B0;have HX:=qh B1;have HH:=qh hh;have HP:D (Qi6 (mC (cs,f,(rt,ra),xs)) (Z6 (cs,f,(rt,ra),xs)++held) (mX (cs,f,(rt,ra),xs))=Qi6 cs G xs):=qh (by rw[AG];rfl);rw[HP.o];clear A5 AZ B0 B1 hh h hz AG hM M;obtain⟨i0,BD,BE,BF,BG⟩:=info_parts Vx;have BH:=λW=>Qho W cs.length (by omega);have B2:=qh (Qd8 w 3 cs.length (by omega));generalize Dh (I Z 0).cells cs.length=cur at *
 go_enter func171,ntmps171;go_upto_region 2 with fail
 refine Qq ?_;intro W1 AK;have AL:D (Bi w.heap.size w W1):=qh (by rw[AK];go_grown);have B3:D (Qqe .int 3 w.heap.size W1 (A (R ⟨w.heap.size,0,N⟩) cs.length cs.length) (Qqf [] [] cs.length)):=qh (by rw[AK];exact B2.o.eqL (Qkg _).symm);have BP:W1.heap.size=w.heap.size+1:=by rw[AK];simp
 clear AK BH B2;have n0:=(Am AL.o).cell _ _ m0;go_upto_region 3 with(first|((go_at_call 165;(with_reducible refine(Q8t _ b o _ (HM.o.kept (Am AL.o)) HZ.o.1).mono ?_);rintro e w2 ⟨BQ,rfl,ho,B⟩;have AM:=qh ho;have A1:=qh B;clear ho B;obtain⟨BI,BJ,rfl,-,-⟩:=AM.o.form))|(at_builtin;refine Qi _ rfl (.tmp 20) (.tmp 21) 132 rfl (t:=Q4) (v:=A BI (Z6 (cs,f,(rt,ra),xs)).length BJ) (xs:=Z6 (cs,f,(rt,ra),xs)) (ys:=held) rfl (by decide) W1.heap.size 40 i0 _ 16 underlying132 BD BE BF BG rfl (by decide) rfl rfl AM.o (HH.o.kept (Am (Q0 AL.o A1.o))) HZ.o.2 A1.o.size ?_;intro BR w3 B4 B5;have AP:=qh (AM.o.grew A1.o A1.o.size B5);have AQ:=qh (B4.eqL BA.o.symm);clear B4 B5;obtain⟨BK,BL,rfl,-,-⟩:=AQ.o.form)|fail)
 have B6:D (Bi w.heap.size w w3):=qh (Q0 AL.o AP.o);have B7:=qh (B3.o.kept AP.o);have BS:=AP.o.size;clear A1 AM n0 B3;go_loopw [24] (λi wr=>∃(j:Nat),j<=G.length/\i=I Z j/\D (Qqe .int 3 w.heap.size wr (A (R ⟨w.heap.size,0,N⟩) cs.length cs.length) (Qqf (G.take j) [] cs.length))/\D (Qqe Q4 40 W1.heap.size wr (A BK G.length BL) G)/\D (Bi w.heap.size w wr)) (λi _=>G.length-(Bv i).toNat);case atStart=>exact⟨0,Ak _,rfl,B7.o,AQ.o,B6.o⟩
 case round=>
  obtain⟨j,hj,rfl,HU,HO,U⟩:=hrel;clear B7 AQ B6;have BT:G.length<=10000000:=B9.o;by_cases s:j<G.length
  ·obtain⟨b2,o2,rfl,hE⟩:=Rd.elem (HO.o.rd rfl) j s
   have HS:=qh (An s);have AR:=qh (BB.o G[j] (As s));generalize G[j]=y at *
   obtain⟨t,a⟩:=y;obtain⟨y0,y1,-,-⟩:=hE.word;simp only[Ty.sz,Nat.reduceAdd]at y0 y1;have A5:=AR.o;simp only[Zh,Bl,Ql]at A5;obtain⟨⟨g1,g2⟩,-⟩:=A5;have A6:a.toNat<cs.length:=by omega
   have g3:a<(cs.length:Int):=by omega
   have A7:=Ac wr _ y0;simp only at A7;clear hE;go_upto_region 5 with fail
   refine Qq ?_;intro W5 A2;have C:D (Bi wr.heap.size wr W5):=qh (by rw[A2];go_grown);have AS:D (W5.heap[wr.heap.size]?=R (.cells #[I Z t,I Z a] 40 (0,0))):=qh (by rw[A2];exact Bg wr _);clear A2 y0 y1 A7;obtain⟨⟨q0,q1⟩,-⟩:=Za AS.o;have A8:=qh (HU.o.kept C.o);obtain⟨K,-⟩:=OwnI.get A8.o a.toNat (by rw[Zo];exact A6);rw[Q27 A6]at K;have AE:=Q2w (G.take j) [] a.toNat;rw[Cj]at AE;have AH:=qh (Qgg (ws:=G.take j) (n:=cs.length) (w:=(t,a)) g1 A6);simp only at AH;have HG:=qh (OwnI.blk A8.o (by rw[Zo];omega));have fG:=λq=>HG.o.free q;have BM:=HG.o.lt;generalize F:Jg (G.take j) [] a.toNat=J at *
   have BN:J<=10000000:=by simp only[List.length_nil]at AE;omega
   clear AE F;go_wp2_with fail
   go_roundw;case rel=>exact⟨j+1,by omega,by go_num,(show Qqe _ _ _ _ _ _ from(OwnI.set A8.o a.toNat (by rw[Zo];exact A6) _ (by unfold Qqm;omega)).eqL (by rw[HS.o,AH.o])),(show Qqe _ _ _ _ _ _ from(HO.o.kept C.o).frame (Jl (X:=λc=>c=w.heap.size) (Q1.refl _ _) rfl _) (λi hi e=>by have:=(HO.o.block i hi).1;omega)),(show Bi w.heap.size w _ from(Q0 U.o C.o).setCell (Aj _) _)⟩
   case measure=>simp[Bv];omega
  ·have AN:G.length<=j:=by omega
   have AI:=qh (HU.o.eqL (by rw[Ao AN]:_=Qqf G [] cs.length));have A1:=qh U.o;have n4:=(Am U.o).cell _ _ m4;clear HU HO U;go_wp2_with fail
   clear n4;go_loopw [41] (λi wr=>∃(j:Nat),j<=xs.length/\i=I Z j/\D (Qqe .int 3 w.heap.size wr (A (R ⟨w.heap.size,0,N⟩) cs.length cs.length) (Qqf G (xs.take j) cs.length))/\D (Bi w.heap.size w wr)) (λi _=>xs.length-(Bv i).toNat);case atStart=>exact⟨0,Ak _,rfl,AI.o,A1.o⟩
   case round=>
    obtain⟨j,hj,rfl,HU,U⟩:=hrel;clear AI A1;by_cases s:j<xs.length
    ·obtain⟨b2,o2,rfl,hE⟩:=Rd.elem (HX.o.kept (Am U.o)) j s
     have HS:=qh (An s);have AR:=qh (BC.o xs[j] (As s));generalize xs[j]=y at *
     obtain⟨pa,pb⟩:=y;obtain⟨y0,y1,-,-⟩:=hE.word;simp only[Ty.sz,Nat.reduceAdd]at y0 y1;have A5:=AR.o;simp only[Zx,Bl,Ql]at A5;obtain⟨⟨k1,k2⟩,⟨k3,k4⟩,-⟩:=A5;have A6:pa.toNat<cs.length:=by omega
     have AO:pb.toNat<cs.length:=by omega
     have g3:pa<(cs.length:Int):=by omega
     have g4:pb<(cs.length:Int):=by omega
     have g5:0<=pb:=by omega
     have A7:=Ac wr _ y0;simp only at A7;clear hE;go_upto_region 10 with fail
     refine Qq ?_;intro W5 A2;have C:D (Bi wr.heap.size wr W5):=qh (by rw[A2];go_grown);have AS:D (W5.heap[wr.heap.size]?=R (.cells #[I Z pa,I Z pb] 117 (0,0))):=qh (by rw[A2];exact Bg wr _);clear A2 y0 y1 A7;obtain⟨⟨q0,q1⟩,-⟩:=Za AS.o;have A8:=qh (HU.o.kept C.o);have BU:w.heap.size<wr.heap.size:=(OwnI.blk HU.o (by rw[Zo];omega)).lt;obtain⟨K,-⟩:=OwnI.get A8.o pa.toNat (by rw[Zo];exact A6);obtain⟨u1,-⟩:=OwnI.get A8.o pb.toNat (by rw[Zo];exact AO);rw[Q27 A6]at K;rw[Q27 AO]at u1;have AE:=Q2w G (xs.take j) pa.toNat;have B8:=Q2w G (xs.take j) pb.toNat;rw[Cj]at AE B8;have AH:=qh (Qdo (ws:=G) (rs:=xs.take j) (n:=cs.length) (p:=(pa,pb)) k3 (by simp only;omega) AO);simp only at AH;have HG:=qh (OwnI.blk A8.o (by rw[Zo];omega));have fG:=λq=>HG.o.free q;have BM:=HG.o.lt;generalize F:Jg G (xs.take j) pa.toNat=ua at *
     generalize hun':Jg G (xs.take j) pb.toNat=ub at *
     have BN:ua<=100000000:=by omega
     have BV:ub<=100000000:=by omega
     have BW:¬pa.toNat=pb.toNat:=by omega
     have BX:wr.heap.size≠w.heap.size:=by omega
     clear AE B8 F hun';go_wp2_with fail
     go_roundw;case rel=>exact⟨j+1,by omega,by go_num,(show Qqe _ _ _ _ _ _ from(OwnI.set (OwnI.set A8.o pa.toNat (by rw[Zo];exact A6) (ua+1) (by unfold Qqm;omega)) pb.toNat (by rw[List.length_set,Zo];exact AO) (ub+1) (by unfold Qqm;omega)).eqL (by rw[HS.o,AH.o])),(show Bi w.heap.size w _ from((Q0 U.o C.o).setCell (Aj _) _).setCell (Aj _) _)⟩
     case measure=>simp[Bv];omega
    ·have AN:xs.length<=j:=by omega
     have AI:=qh (HU.o.eqL (by rw[Ao AN]:_=Qqf G xs cs.length));have A1:=qh U.o;have n0:=(Am U.o).cell _ _ m0;clear HU U;go_wp2_with fail
     clear n0;go_loopw [65] (λi wr=>∃(j:Nat),j<=cs.length/\i=I Z j/\D (Qqe .int 3 w.heap.size wr (A (R ⟨w.heap.size,0,N⟩) cs.length cs.length) (Qqf G xs cs.length))/\D (∀q:Nat,q<j->(((Jg G xs q:Nat):Int)==Q0v (Qn cs q))=Bn)/\D (Bi w.heap.size w wr)) (λi _=>cs.length-(Bv i).toNat);case atStart=>exact⟨0,Ak _,rfl,AI.o,λq h=>absurd h (Nat.not_lt_zero _),A1.o⟩
     case round=>
      obtain⟨j,hj,rfl,HU,HK,U⟩:=hrel;clear AI A1;by_cases s:j<cs.length
      ·obtain⟨b2,o2,rfl,hA⟩:=Rd.elem (HC.o.kept (Am U.o)) j s
       generalize hx:cs[j]=x at hA;obtain⟨k,l,v,d,ws⟩:=x;have HX:D (Qn cs j=(k,l,v,d,ws)):=qh (by rw[Qx s,hx]);clear hx;obtain⟨V,Y,g,r,⟨L,S,T,O,P⟩,-,-,-⟩:=hA.agent;have HA:=qh (hA.rdv O P);simp only[Ty.sz,Nat.reduceAdd]at L S T O P;have A7:=Ac wr _ L;simp only at A7;clear hA;go_upto_region 17 with fail
       refine Qq ?_;intro W5 A2;have C:D (Bi wr.heap.size wr W5):=qh (by rw[A2];go_grown);obtain⟨g0,g1,g2,g3,g4⟩:=Q0n wr (I Z k) (I Z l) (I Z v) (A V d.length Y) (A g ws.length r) 134;rw[<-A2]at g0 g1 g2 g3 g4;clear A2 L S T O P A7;have AB:D (∀W,Bi wr.heap.size wr W->Rd Q3 W [I Z k,I Z l,I Z v,A V d.length Y,A g ws.length r] (k,l,v,d,ws)):=qh (λW B=>HA.o.kept (Am B));have A9:=qh (AB.o _ C.o);obtain⟨u,-⟩:=OwnI.get HU.o j (by rw[Zo];exact s);rw[Q27 s]at u;have AF:D (W5.cell? ⟨wr.heap.size,0,N⟩=R (I Z k)/\W5.cell? ⟨wr.heap.size,1,N⟩=R (I Z l)/\W5.cell? ⟨wr.heap.size,2,N⟩=R (I Z v)/\W5.cell? ⟨wr.heap.size,3,N⟩=R (A V d.length Y)/\W5.cell? ⟨wr.heap.size,4,N⟩=R (A g ws.length r)):=qh (⟨g0,g1,g2,g3,g4⟩);have A0:D (∀W,Bi W5.heap.size W5 W->W.cell? ⟨wr.heap.size,0,N⟩=R (I Z k)/\W.cell? ⟨wr.heap.size,1,N⟩=R (I Z l)/\W.cell? ⟨wr.heap.size,2,N⟩=R (I Z v)/\W.cell? ⟨wr.heap.size,3,N⟩=R (A V d.length Y)/\W.cell? ⟨wr.heap.size,4,N⟩=R (A g ws.length r)):=qh (λW B=>have hk:=Am B;⟨hk.cell _ _ AF.o.1,hk.cell _ _ AF.o.2.1,hk.cell _ _ AF.o.2.2.1,hk.cell _ _ AF.o.2.2.2.1,hk.cell _ _ AF.o.2.2.2.2⟩);clear AF;obtain⟨J,AT⟩:∃J,Jg G xs j=J:=⟨_,rfl⟩;rw[AT]at u;have AA:=qh AT;clear AT;by_cases k0:k=0
       ·have K0:D ((k==0)=Bn):=qh (by simp[k0])
        clear k0;have A3:D (Q0v (Qn cs j)=0):=qh (by rw[HX.o];simp[Q0v,aK,aW,K0.o]);by_cases F:(J:Int)=0
        ·have z:D ((((J:Nat):Int)==Q0v (Qn cs j))=Bn):=qh (by rw[A3.o,F];rfl)
         have hq:((J:Int) !=0)=Bm:=by simp[F]
         clear F;go_wp2_with((go_at_call 202;(with_reducible refine(Vl _ [I Z k,I Z l,I Z v,A V d.length Y,A g ws.length r] _ A9.o).mono ?_);rintro e w6 ⟨rfl,B⟩;have E:=qh B;clear B;have K:=(Am (Q0 C.o E.o)).cell _ _ u;obtain⟨L,S,T,O,P⟩:=A0.o _ E.o;simp only[aK];rw[K0.o]))
         go_roundw;case rel=>exact⟨j+1,by omega,by go_num,(show Qqe _ _ _ _ _ _ from HU.o.kept (Q0 C.o E.o)),λq hq=>(by
          by_cases AC:q=j
          ·subst AC;rw[AA.o];exact z.o
          ·exact HK.o q (by omega)),(show Bi w.heap.size w _ from Q0 U.o (Q0 C.o E.o))⟩
         case measure=>simp[Bv];omega
        ·have z:D ((((J:Nat):Int)==Q0v (Qn cs j))=Bm):=qh (by rw[A3.o];simpa using F)
         have hq:((J:Int) !=0)=Bn:=by simpa using F
         clear F;go_wp2_with((go_at_call 202;(with_reducible refine(Vl _ [I Z k,I Z l,I Z v,A V d.length Y,A g ws.length r] _ A9.o).mono ?_);rintro e w6 ⟨rfl,B⟩;have E:=qh B;clear B;have K:=(Am (Q0 C.o E.o)).cell _ _ u;obtain⟨L,S,T,O,P⟩:=A0.o _ E.o;simp only[aK];rw[K0.o]))
         go_ret;exact⟨Q2 (Yo j s (by rw[AA.o];exact z.o)).symm,Q0 U.o (Q0 C.o E.o)⟩
       ·have K0:D ((k==0)=Bm):=qh (by simp[k0])
        by_cases AD:k=13/\ws.length=0
        ·obtain⟨AD,l0⟩:=AD
         have A4:D ((k==13)=Bn):=qh (by simp[AD]);have AU:((ws.length:Int)==0)=Bn:=by simp[l0]
         have AV:=qh AU;clear AD k0 l0;have A3:D (Q0v (Qn cs j)=2):=qh (by rw[HX.o];simp[Q0v,aK,aW,K0.o,A4.o,AV.o]);by_cases F:(J:Int)=2
         ·have z:D ((((J:Nat):Int)==Q0v (Qn cs j))=Bn):=qh (by rw[A3.o,F];rfl)
          have hq:((J:Int) !=2)=Bm:=by simp[F]
          clear F;go_wp2_with(first|((go_at_call 202;(with_reducible refine(Vl _ [I Z k,I Z l,I Z v,A V d.length Y,A g ws.length r] _ A9.o).mono ?_);rintro e w6 ⟨rfl,B⟩;have E:=qh B;clear B;have K:=(Am (Q0 C.o E.o)).cell _ _ u;obtain⟨L,S,T,O,P⟩:=A0.o _ E.o;simp only[aK];rw[K0.o]))|((go_at_call 173;(with_reducible refine(Q0r _ [I Z k,I Z l,I Z v,A V d.length Y,A g ws.length r] _ (AB.o _ (Q0 C.o E.o))).mono ?_);rintro e w7 ⟨rfl,B⟩;have H:=qh (Q0 E.o B);clear B K L S T O P;have K:=(Am (Q0 C.o H.o)).cell _ _ u;obtain⟨L,S,T,O,P⟩:=A0.o _ H.o;simp only[aK];rw[A4.o]))|fail)
          go_roundw;case rel=>exact⟨j+1,by omega,by go_num,(show Qqe _ _ _ _ _ _ from HU.o.kept (Q0 C.o H.o)),λq hq=>(by
           by_cases AC:q=j
           ·subst AC;rw[AA.o];exact z.o
           ·exact HK.o q (by omega)),(show Bi w.heap.size w _ from Q0 U.o (Q0 C.o H.o))⟩
          case measure=>simp[Bv];omega
         ·have z:D ((((J:Nat):Int)==Q0v (Qn cs j))=Bm):=qh (by rw[A3.o];simpa using F)
          have hq:((J:Int) !=2)=Bn:=by simpa using F
          clear F;go_wp2_with(first|((go_at_call 202;(with_reducible refine(Vl _ [I Z k,I Z l,I Z v,A V d.length Y,A g ws.length r] _ A9.o).mono ?_);rintro e w6 ⟨rfl,B⟩;have E:=qh B;clear B;have K:=(Am (Q0 C.o E.o)).cell _ _ u;obtain⟨L,S,T,O,P⟩:=A0.o _ E.o;simp only[aK];rw[K0.o]))|((go_at_call 173;(with_reducible refine(Q0r _ [I Z k,I Z l,I Z v,A V d.length Y,A g ws.length r] _ (AB.o _ (Q0 C.o E.o))).mono ?_);rintro e w7 ⟨rfl,B⟩;have H:=qh (Q0 E.o B);clear B K L S T O P;have K:=(Am (Q0 C.o H.o)).cell _ _ u;obtain⟨L,S,T,O,P⟩:=A0.o _ H.o;simp only[aK];rw[A4.o]))|fail)
          go_ret;exact⟨Q2 (Yo j s (by rw[AA.o];exact z.o)).symm,Q0 U.o (Q0 C.o H.o)⟩
        ·by_cases AJ:k=13
         ·have A4:D ((k==13)=Bn):=qh (by simp[AJ])
          have AU:((ws.length:Int)==0)=Bm:=by simp;intro e;exact AD ⟨AJ,by rw[e];rfl⟩
          have AV:=qh AU;clear AD AJ k0;have A3:D (Q0v (Qn cs j)=1):=qh (by rw[HX.o];simp[Q0v,aK,aW,K0.o,A4.o,AV.o]);by_cases F:(J:Int)=1
          ·have z:D ((((J:Nat):Int)==Q0v (Qn cs j))=Bn):=qh (by rw[A3.o,F];rfl)
           have hq:((J:Int) !=1)=Bm:=by simp[F]
           clear F;go_wp2_with(first|((go_at_call 202;(with_reducible refine(Vl _ [I Z k,I Z l,I Z v,A V d.length Y,A g ws.length r] _ A9.o).mono ?_);rintro e w6 ⟨rfl,B⟩;have E:=qh B;clear B;have K:=(Am (Q0 C.o E.o)).cell _ _ u;obtain⟨L,S,T,O,P⟩:=A0.o _ E.o;simp only[aK];rw[K0.o]))|((go_at_call 173;(with_reducible refine(Q0r _ [I Z k,I Z l,I Z v,A V d.length Y,A g ws.length r] _ (AB.o _ (Q0 C.o E.o))).mono ?_);rintro e w7 ⟨rfl,B⟩;have H:=qh (Q0 E.o B);clear B K L S T O P;have K:=(Am (Q0 C.o H.o)).cell _ _ u;obtain⟨L,S,T,O,P⟩:=A0.o _ H.o;simp only[aK];rw[A4.o]))|fail)
           go_roundw;case rel=>exact⟨j+1,by omega,by go_num,(show Qqe _ _ _ _ _ _ from HU.o.kept (Q0 C.o H.o)),λq hq=>(by
            by_cases AC:q=j
            ·subst AC;rw[AA.o];exact z.o
            ·exact HK.o q (by omega)),(show Bi w.heap.size w _ from Q0 U.o (Q0 C.o H.o))⟩
           case measure=>simp[Bv];omega
          ·have z:D ((((J:Nat):Int)==Q0v (Qn cs j))=Bm):=qh (by rw[A3.o];simpa using F)
           have hq:((J:Int) !=1)=Bn:=by simpa using F
           clear F;go_wp2_with(first|((go_at_call 202;(with_reducible refine(Vl _ [I Z k,I Z l,I Z v,A V d.length Y,A g ws.length r] _ A9.o).mono ?_);rintro e w6 ⟨rfl,B⟩;have E:=qh B;clear B;have K:=(Am (Q0 C.o E.o)).cell _ _ u;obtain⟨L,S,T,O,P⟩:=A0.o _ E.o;simp only[aK];rw[K0.o]))|((go_at_call 173;(with_reducible refine(Q0r _ [I Z k,I Z l,I Z v,A V d.length Y,A g ws.length r] _ (AB.o _ (Q0 C.o E.o))).mono ?_);rintro e w7 ⟨rfl,B⟩;have H:=qh (Q0 E.o B);clear B K L S T O P;have K:=(Am (Q0 C.o H.o)).cell _ _ u;obtain⟨L,S,T,O,P⟩:=A0.o _ H.o;simp only[aK];rw[A4.o]))|fail)
           go_ret;exact⟨Q2 (Yo j s (by rw[AA.o];exact z.o)).symm,Q0 U.o (Q0 C.o H.o)⟩
         ·have A4:D ((k==13)=Bm):=qh (by simp[AJ])
          clear AD AJ k0;have A3:D (Q0v (Qn cs j)=1):=qh (by rw[HX.o];simp[Q0v,aK,aW,K0.o,A4.o]);by_cases F:(J:Int)=1
          ·have z:D ((((J:Nat):Int)==Q0v (Qn cs j))=Bn):=qh (by rw[A3.o,F];rfl)
           have hq:((J:Int) !=1)=Bm:=by simp[F]
           clear F;go_wp2_with(first|((go_at_call 202;(with_reducible refine(Vl _ [I Z k,I Z l,I Z v,A V d.length Y,A g ws.length r] _ A9.o).mono ?_);rintro e w6 ⟨rfl,B⟩;have E:=qh B;clear B;have K:=(Am (Q0 C.o E.o)).cell _ _ u;obtain⟨L,S,T,O,P⟩:=A0.o _ E.o;simp only[aK];rw[K0.o]))|((go_at_call 173;(with_reducible refine(Q0r _ [I Z k,I Z l,I Z v,A V d.length Y,A g ws.length r] _ (AB.o _ (Q0 C.o E.o))).mono ?_);rintro e w7 ⟨rfl,B⟩;have H:=qh (Q0 E.o B);clear B K L S T O P;have K:=(Am (Q0 C.o H.o)).cell _ _ u;obtain⟨L,S,T,O,P⟩:=A0.o _ H.o;simp only[aK];rw[A4.o]))|fail)
           go_roundw;case rel=>exact⟨j+1,by omega,by go_num,(show Qqe _ _ _ _ _ _ from HU.o.kept (Q0 C.o H.o)),λq hq=>(by
            by_cases AC:q=j
            ·subst AC;rw[AA.o];exact z.o
            ·exact HK.o q (by omega)),(show Bi w.heap.size w _ from Q0 U.o (Q0 C.o H.o))⟩
           case measure=>simp[Bv];omega
          ·have z:D ((((J:Nat):Int)==Q0v (Qn cs j))=Bm):=qh (by rw[A3.o];simpa using F)
           have hq:((J:Int) !=1)=Bn:=by simpa using F
           clear F;go_wp2_with(first|((go_at_call 202;(with_reducible refine(Vl _ [I Z k,I Z l,I Z v,A V d.length Y,A g ws.length r] _ A9.o).mono ?_);rintro e w6 ⟨rfl,B⟩;have E:=qh B;clear B;have K:=(Am (Q0 C.o E.o)).cell _ _ u;obtain⟨L,S,T,O,P⟩:=A0.o _ E.o;simp only[aK];rw[K0.o]))|((go_at_call 173;(with_reducible refine(Q0r _ [I Z k,I Z l,I Z v,A V d.length Y,A g ws.length r] _ (AB.o _ (Q0 C.o E.o))).mono ?_);rintro e w7 ⟨rfl,B⟩;have H:=qh (Q0 E.o B);clear B K L S T O P;have K:=(Am (Q0 C.o H.o)).cell _ _ u;obtain⟨L,S,T,O,P⟩:=A0.o _ H.o;simp only[aK];rw[A4.o]))|fail)
           go_ret;exact⟨Q2 (Yo j s (by rw[AA.o];exact z.o)).symm,Q0 U.o (Q0 C.o H.o)⟩
      ·have AN:cs.length<=j:=by omega
       go_wp2_with fail
       go_ret;exact⟨Q2 (Q13 λi hi=>HK.o i (by omega)).symm,U.o⟩
theorem Q64{α:Type}{p:α->Bool}{l:List α}(h:∀x∈l,p x=Bm):l.countP p=0:=by
 rw[List.countP_eq_zero];intro x B;rw[h x B];simp
theorem Qo5{cs:List Qb}{ws rs:List Wd}(L:∀c∈cs,Yg c=Bn)(M:∀x∈ws,Zh cs x=Bn)(K:∀p∈rs,Zx cs p=Bn):Qi6 cs ws rs=(Bz cs.length).all λi=>Q5d (Qn cs i) (Jg ws rs i):=by
 unfold Qi6;rw[Bool.eq_iff_iff,Bf,Bf];refine forall_congr' λi=> ?_;refine imp_congr_right λG=> ?_;have G:=List.mem_range.1 G;have E:Yg (Qn cs i)=Bn:=L _ (by rw[Qx G];exact As G);by_cases C:aK (Qn cs i)=0
 ·have O:Jg ws rs i=0:=by
   unfold Jg;have H:∀a:Int,a=(i:Int)->Q7 cs a=Qn cs i:=λa e=>by rw[e];simp[Q7]
   rw[Q64,Q64,Q64]
   ·intro p J
    have:=K p J;simp only[Zx,Bl]at this;by_cases e:p.2=(i:Int)
    ·have B:=this.2.2.2;rw[H _ e,C]at B;exact absurd B (by decide)
    ·simpa using e
   ·intro p J
    have:=K p J;simp only[Zx,Bl]at this;by_cases e:p.1=(i:Int)
    ·have B:=this.2.2.1;rw[H _ e,C]at B;exact absurd B (by decide)
    ·simpa using e
   ·intro x P
    have:=M x P;simp only[Zh,Bl,Bool.or_eq_true]at this;by_cases e:x.2=(i:Int)
    ·have B:=this.2;rw[H _ e,C]at B;exact absurd B (by simp[J5,Qqz])
    ·simpa using e
  rw[O];simp[Q0v,Q5d,C,J5,Qqz]
 ·by_cases F:aK (Qn cs i)=13
  ·have V:=Qb7 E F
   have B:(aW (Qn cs i)).length=0\/(aW (Qn cs i)).length=1:=by omega
   rcases B with B|B
   ·simp[Q0v,Q5d,F,B,J5,Qqz]
   ·simp[Q0v,Q5d,F,B,J5,Qqz]
  ·have S:J5 (aK (Qn cs i))=Bn:=by
    unfold Yg at E;rw[if_neg (by simpa using C),if_neg (by simpa using F)]at E;simp only[Bl]at E;exact E.1
   have T:(aK (Qn cs i)==0)=Bm:=by simpa using C
   have U:(aK (Qn cs i)==13)=Bm:=by simpa using F
   simp only[Q0v,Q5d,T,U,S,Bool.false_eq_true,if_false,Bool.false_and,Bool.not_true,Bool.false_or,Bool.not_false,Bool.true_or,Bool.and_true,beq_iff_eq];omega
theorem Qpu(w:Bh)(vs:List Value)(x:Qb)(h:Rd Q3 w vs x)(C:(aW x).length<=100000000):Bq prog 162 #[.agg vs.toArray] w λe w'=>e=.returned (.bool (!Yg x))/\Bi w.heap.size w w':=by
 have H:=qh h;obtain⟨k,l,v,d,ws⟩:=x;obtain⟨E,F,G,J,rfl,-,-,-⟩:=h.agentV;clear h;go_enter func162,ntmps162;go_wp2_with((go_at_call 163;(with_reducible refine(Qkm _ [I Z k,I Z l,I Z v,A E d.length F,A G ws.length J] _ (H.o.kept (Am (by go_grown))) C).mono ?_);rintro e w1 ⟨rfl,B⟩;have K:D (Bi w.heap.size w w1):=qh (Q0 (by go_grown) B);clear B))
 go_ret;exact⟨rfl,K.o⟩
theorem Qpy(w:Bh)(g b o:Nat)(m:Qqp)(C:w.cell? ⟨g,0,N⟩=R (.pointer (R ⟨b,o,N⟩)))(h:At Qo w b o m)(t a:Int)(E:Qqm a):Bq prog 166 #[.agg #[I Z t,I Z a],.pointer (R ⟨g,0,N⟩)] w λe w'=>e=.returned (.bool (!Zh (mC m) (t,a)))/\Bi w.heap.size w w':=by
 have H:=qh h;have F:=Ac w _ C;simp only at F;clear h;go_enter func166,ntmps166;go_wp2_with((go_at_call 167;(with_reducible refine(Qo6 _ b o m (H.o.kept (Am (by go_grown))) t a E).mono ?_);rintro e w1 ⟨rfl,B⟩;have G:D (Bi w.heap.size w w1):=qh (Q0 (by go_grown) B);clear B))
 go_ret;exact⟨rfl,G.o⟩
theorem Qpo(w:Bh)(g b o:Nat)(m:Qqp)(C:w.cell? ⟨g,0,N⟩=R (.pointer (R ⟨b,o,N⟩)))(h:At Qo w b o m)(x y:Int):Bq prog 169 #[.agg #[I Z x,I Z y],.pointer (R ⟨g,0,N⟩)] w λe w'=>e=.returned (.bool (!Zx (mC m) (x,y)))/\Bi w.heap.size w w':=by
 have H:=qh h;have E:=Ac w _ C;simp only at E;clear h;go_enter func169,ntmps169;go_wp2_with((go_at_call 170;(with_reducible refine(Qhl _ b o m (H.o.kept (Am (by go_grown))) x y).mono ?_);rintro e w1 ⟨rfl,B⟩;have F:D (Bi w.heap.size w w1):=qh (Q0 (by go_grown) B);clear B))
 go_ret;exact⟨rfl,F.o⟩
end Go.Proofs.YthbpkpnioaniiaaGreat
