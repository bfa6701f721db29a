/- FnExactSuccessorsOf holds for every input: it answers true and its arguments read afterwards as before; no condition. -/
import Derived.Test.YthbpkpnioaniiaaGreatP40
import Derived.Test.YthbpkpnioaniiaaGreatP41
import Derived.Test.YthbpkpnioaniiaaGreatP42
set_option maxHeartbeats 40000000
set_option maxRecDepth 100000
set_option linter.all false
namespace Go.Proofs.YthbpkpnioaniiaaGreat
open Go.RowKit Go.Proofs.Tryz
open Go.Value renaming int->I,slice->A
open Go.IntKind renaming i64->Z
open Option renaming none->N,some->R
open Bool renaming and_eq_true->Bl,true->Bn,false->Bm
open Go renaming World->Bh,Value->Bk,Addr->Cm,heap_alloc_new->Bg,Program->Eq,TypeId->Cf
open Go.RowKit renaming Below->Bi
theorem Qbb{bk:List Qr2}{p:J9}(C:∀k,Jp (Ye bk p k).2):∀(L:List Int) (B:List J9),(∀x∈B,Jp x)->(∀x∈L.foldl (Zr bk p) B,Jp x)/\(L.foldl (Zr bk p) B).length<=B.length+L.length
 | [],B,h=>⟨h,Aj _⟩
 |k::L,B,h=>by
  rw[List.foldl_cons];have E:(∀x∈Zr bk p B k,Jp x)/\(Zr bk p B k).length<=B.length+1:=by
   unfold Zr;split
   ·exact⟨λx G=>(At0.1 G).elim (h x) λe=>by rw[Bb.1 e];exact C _,by simp⟩
   ·exact⟨h,Nat.le_succ _⟩
  have F:=Qbb C L _ E.1;exact⟨F.1,by have:=F.2;have:=E.2;simp only[List.length_cons];omega⟩
theorem Qkd(bk:List Qr2)(p:J9):Z9 Qr (J8 bk p).1<=520000000:=by
 unfold J8;split
 ·rename_i C
  simp only[Bl]at C;have E:=C.1;unfold Q0u at E;simp only[Bl]at E;have H:∀n∈bk,Ys n=Bn:=Bf.1 E.2;have J:∀k,Jp (Ye bk p k).2:=λk=>(Q7c (Qrg.of C.2) (λn F i=>by have:=(Y5 (H n F)).2.2.1 i;omega) (λn F=>by have:=(Y5 (H n F)).1;omega)).1;have h:=Qbb J (Q1b p) [] (λx G=>by cases G);have L:(Q1b p).length<=4:=Au (Qco p) (Q1d (Qrg.of C.2)).1.2;have M:=Q55 (e:=Qr) (B:=130000000) (xs:=(Q1b p).foldl (Zr bk p) []) λx G=>(h.1 x G).mcnt;have K:=h.2;simp only[List.length_nil,Nat.zero_add]at K;show Z9 Qr ((Q1b p).foldl (Zr bk p) [])<=520000000;have O:((Q1b p).foldl (Zr bk p) []).length * 130000000<=4 * 130000000:=Bd _ (by omega);omega
 ·simp[Z9]
theorem Qkx{bk:List Qr2}{p:J9}(B:Qqy (.slice Je) bk<=1048576)(C:Qqy Qr p<=1048576):Z9 Je bk<=10000000/\Z9 Q3 p.1.1<=10000000/\Z9 Q4 p.1.2.2.2<=10000000/\Z9 Qc p.2.1<=10000000:=by
 have e:Qqy Qr p=Qqy (.slice Q3) p.1.1+(0+(0+0+Qqy (.slice Q4) p.1.2.2.2))+(Qqy (.slice Qc) p.2.1+0):=rfl;have E:=Q8r (e:=Je) rfl bk;have F:=Q8r (e:=Q3) rfl p.1.1;have G:=Q8r (e:=Q4) rfl p.1.2.2.2;have H:=Q8r (e:=Qc) rfl p.2.1;omega
theorem Rd.poolW{w:Bh}{vs:List Bk}{p:J9}(h:Rd Qr w vs p):∃(q1:Option Cm) (C E:Nat) (f t a:Int) (F:Option Cm) (G H:Nat) (J:Option Cm) (K L:Nat) (B:Int),vs=[A q1 C E,I Z f,I Z t,I Z a,A F G H,A J K L,I Z B]:=by
 obtain⟨⟨cs,f,⟨M,O⟩,xs⟩,P,B⟩:=p;obtain⟨S,T,px,cx,U,V,rfl,-⟩:=h.poolV;exact⟨_,_,_,_,_,_,_,_,_,_,_,_,_,rfl⟩
theorem Qpp(w:Bh)(k:Bk)(bk:List Qr2)(vs:List Bk)(p:J9)(B:Rx (.slice Je) w [k] bk)(hp:Rx Qr w vs p):
  Calls prog 3 #[k,.agg vs.toArray] w λe w'=>e=.returned (.bool Bn)/\Bi w.heap.size w w':=by
 obtain⟨K,L,M,O,P,S,T,rfl⟩:=Qg5 hp.length;have HB:=qh B;have HP:=qh hp;have AY:D (bk.length<=maxLen):=qh (by obtain⟨_,_,_,h1,h2,_⟩:=Q41 B;exact h2);clear B hp;go_enter func3,ntmps3;go_upto_region 1 with fail
 refine Qq ?_;intro C AZ;have B0:D (C.heap[w.heap.size]?=R (.cells #[K,L,M,O,P,S,T] 31 (0,0))):=qh (by rw[AZ];exact Bg w _);have r:D (Bi w.heap.size w C):=qh (by rw[AZ];go_grown);have A1:D (∀V,Bi C.heap.size C V->Rx (.slice Je) V [k] bk):=qh (λV h=>HB.o.kept (Am (Q0 r.o h)));have A2:D (∀V,Bi C.heap.size C V->Rx Qr V [K,L,M,O,P,S,T] p):=qh (λV h=>HP.o.kept (Am (Q0 r.o h)));have BX:=qh (Ai C.heap.size C);clear AZ HB HP;obtain⟨d,hd⟩:∃d,Qqy (.slice Je) bk=d:=⟨_,rfl⟩;have HD:=qh hd;clear hd;by_cases z1:(d:Int)<=1048576;case neg=>
  have HZ:D (¬(Qqy (.slice Je) bk:Int)<=1048576):=qh (by rw[HD.o];exact z1);clear z1;go_wp2_with((go_at_call 4;(with_reducible refine((Qqx.no Qh9) _ k bk 1048576 (A1.o _ BX.o) (by omega) (by omega) HZ.o).mono ?_);rintro e w1 ⟨rfl,B⟩;have s:=qh (r.o.trans (B.mono r.o.size));clear B))
  go_ret;exact⟨rfl,s.o⟩
 case pos=>
 have B1:D ((Qqy (.slice Je) bk:Int)<=1048576):=qh (by rw[HD.o];exact z1);have B2:(0:Int)<=1048576-(d:Int):=by omega
 have B3:(1048576:Int)-(d:Int)<=1048576:=by omega
 go_upto_region 5 with((go_at_call 4;(with_reducible refine((Qqx.yes Qh9) _ k bk 1048576 (A1.o _ BX.o) (by omega) (by omega) B1.o).mono ?_);rintro e w1 ⟨rfl,B⟩;rw[HD.o];have s:=qh B;clear B))
 obtain⟨J,W,X,Y,f,g,i⟩:=Q2t (Qe B0.o s.o);by_cases z2:(Qqy Qr p:Int)<=1048576-d;case neg=>
  have HZ:=qh z2;clear z1 z2;go_wp2_with((go_at_call 5;(with_reducible refine((Qq7.no Qgq) _ [K,L,M,O,P,S,T] p (1048576-d) (A2.o _ s.o) B2 B3 HZ.o).mono ?_);rintro e w2 ⟨rfl,B⟩;have A3:=qh (r.o.trans ((Q0 s.o B).mono r.o.size));clear B))
  go_ret;exact⟨rfl,A3.o⟩
 case pos=>
 have BY:=qh z2;obtain⟨d2,AB⟩:∃d,Qqy Qr p=d:=⟨_,rfl⟩;have BZ:=qh AB;rw[AB]at z2;have AC:D (Qqy (.slice Je) bk<=1048576):=qh (by have:=B1.o;omega);have AD:D (Qqy Qr p<=1048576):=qh (by rw[AB];omega);have B4:D (Qqy Qr p<=2000000):=qh (by rw[AB];omega);have D2:(0:Int)<=1048576-(d:Int)-(d2:Int):=by omega
 clear AB;go_upto_region 8 with((go_at_call 5;(with_reducible refine((Qq7.yes Qgq) _ [K,L,M,O,P,S,T] p (1048576-d) (A2.o _ s.o) B2 B3 BY.o).mono ?_);rintro e w2 ⟨rfl,B⟩;rw[BZ.o];have A3:=qh (Q0 s.o B);clear B))
 clear J W X Y f g i z1 z2 B2 B3 D2;obtain⟨J,W,X,Y,f,g,i⟩:=Q2t (Qe B0.o A3.o);have C0:=Ac w2 _ J;simp only at C0;have HK:D (∀V,Bi C.heap.size C V->V.cell? ⟨w.heap.size,0,N⟩=R K/\V.cell? ⟨w.heap.size,1,N⟩=R L/\V.cell? ⟨w.heap.size,2,N⟩=R M/\V.cell? ⟨w.heap.size,3,N⟩=R O/\V.cell? ⟨w.heap.size,4,N⟩=R P/\V.cell? ⟨w.heap.size,5,N⟩=R S/\V.cell? ⟨w.heap.size,6,N⟩=R T):=qh (λV h=>Q2t (Qe B0.o h));have AL:D (Bi C.heap.size C w2.drew):=qh (A3.o.drew);have D3:=qh (Qkx AC.o AD.o);have D4:=qh (Qkd bk p);have B5:D (Qqu (.slice Qr) (J8 bk p).1 (J8 bk p).1=Bn):=qh (Ju rfl);have D5:D (Qqu (.slice Je) bk bk=Bn):=qh (Ju rfl);have D6:D (Qqu Qr p p=Bn):=qh (Ju rfl);go_cut [6,7] (λa b t=>∃(pu:Option Cm) (n cu:Nat),a=A pu n cu/\b=I Z (J8 bk p).2/\D (Rd (.slice Qr) t [A pu n cu] (J8 bk p).1)/\D (Bi C.heap.size C t))
 case first=>
  go_region_held3(λV=>V.cell? ⟨w.heap.size,0,N⟩=R K/\V.cell? ⟨w.heap.size,1,N⟩=R L/\V.cell? ⟨w.heap.size,2,N⟩=R M/\V.cell? ⟨w.heap.size,3,N⟩=R O/\V.cell? ⟨w.heap.size,4,N⟩=R P/\V.cell? ⟨w.heap.size,5,N⟩=R S/\V.cell? ⟨w.heap.size,6,N⟩=R T)
   (((refine HK.o _ ?_);(first|with_reducible exact C1.o|with_reducible exact A4.o|with_reducible exact l.o|with_reducible exact AL.o|with_reducible exact A3.o)))
   (first
    |((go_at_call 6;(with_reducible refine(Qoi _ q3 k3 bk B6.o AY.o _ p D7.o B4.o).mono ?_);rintro e F ⟨v5,rfl,hr,B⟩;obtain⟨q5,k5,rfl,-⟩:=(Yz hr).gen;have D8:=qh hr;have C1:=qh (Q0 A4.o B);clear hr B))
    |((go_at_call 8;(with_reducible refine(Q8x _ [K,L,M,O,P,S,T] p (A2.o _ l.o) AD.o).mono ?_);rintro e w4 ⟨D9,rfl,E,B⟩;have D7:D (Rd Qr w4 D9 p):=qh (let ⟨_,o,_⟩:=E;o.rd);have B6:=qh (DA.o.kept B);have B6:D (Rd (.slice Je) w4 [A q3 bk.length k3] bk):=qh (let ⟨_,o,_⟩:=B6.o;o.rd);have A4:=qh (Q0 l.o B);clear E B))
    |((go_at_call 7;(with_reducible refine(Q8s _ k bk (A1.o _ AL.o) AC.o).mono ?_);rintro e G ⟨v3,rfl,E,B⟩;obtain⟨q3,k3,rfl⟩:=Jo E;have DA:=qh E;have l:=qh (Q0 AL.o B);clear E B))
    |fail)
  all_goals(go_wp2_with fail;go_meet)
  all_goals exact⟨_,_,_,rfl,rfl,D8.o,C1.o⟩
 case rest=>
 rename Bh=>G
 obtain⟨pw,nw,cw,rfl,rfl,C2,l⟩:=hcut;clear J W X Y f g i C0;have C3:=qh l.o.size;obtain⟨J,W,X,Y,f,g,i⟩:=HK.o _ l.o;go_upto_region 10 with((go_at_call 7;(with_reducible refine(Q8s _ k bk (A1.o _ l.o) AC.o).mono ?_);rintro e w4 ⟨v4,rfl,E,B⟩;obtain⟨q4,k4,rfl⟩:=Jo E;have B7:=qh E;have B8:=qh B;have A4:=qh (Q0 l.o B);clear E B))
 clear J W X Y f g i;obtain⟨J,W,X,Y,f,g,i⟩:=HK.o _ A4.o;go_upto_region 11 with((go_at_call 8;(with_reducible refine(Q8x _ [K,L,M,O,P,S,T] p (A2.o _ A4.o) AD.o).mono ?_);rintro e F ⟨DX,rfl,E,B⟩;obtain⟨u,v,x,y,z,ra,qb,nb,cb,qd,nd,cd,aa,rfl⟩:=Rd.poolW (let ⟨_,o,_⟩:=E;o.rd);have B9:=qh E;have AE:=qh B;clear E B))
 clear J W X Y f g i;refine Qq ?_;intro W5 AM;have BA:D (W5.heap[F.heap.size]?=R (.cells #[A u v x,I Z y,I Z z,I Z ra,A qb nb cb,A qd nd cd,I Z aa] 46 (0,0))):=qh (by rw[AM];exact Bg F _);have A5:D (Bi F.heap.size F W5):=qh (by rw[AM];go_grown);have BB:D (W5.heap.size=F.heap.size+1):=qh (by rw[AM];simp);clear AM;have C4:D (Rd (.slice Je) W5 [A q4 bk.length k4] bk):=qh (let ⟨_,o,_⟩:=B7.o.kept (Q0 AE.o A5.o);o.rd);have C5:D (Rd Qr W5 [A u v x,I Z y,I Z z,I Z ra,A qb nb cb,A qd nd cd,I Z aa] p):=qh (let ⟨_,o,_⟩:=B9.o.kept A5.o;o.rd);obtain⟨b0,b1,b2,b3,b4,b5,b6⟩:=Q2t BA.o;have AN:=qh (And.intro B8.o.size AE.o.size);go_upto_region 12 with((go_at_call 9;(with_reducible refine(Qjq _ q4 k4 bk C4.o AY.o _ p C5.o B4.o).mono ?_);rintro e U ⟨v6,rfl,E,B⟩;obtain⟨q6,k6,rfl⟩:=Jo E;have C6:=qh E;have A6:=qh B;clear E B))
 clear b0 b1 b2 b3 b4 b5 b6;have C7:=qh A6.o.size;have AO:D (Bi G.heap.size G U):=qh (Q0 (Q0 (Q0 B8.o AE.o) A5.o) A6.o);obtain⟨F0,C8,C9,AF⟩:=B7.o;have AG:D (Ow (.slice Je) U [A q4 bk.length k4] bk F0):=qh (C8.kept λb B=>(Q0 (Q0 AE.o A5.o) A6.o).block b (AF b B).2);obtain⟨F1,CA,CB,A7⟩:=B9.o;have A0:D (Ow Qr U [A u v x,I Z y,I Z z,I Z ra,A qb nb cb,A qd nd cd,I Z aa] p F1):=qh (CA.kept λb B=>(Q0 A5.o A6.o).block b (A7 b B).2);obtain⟨F2,CC,CD,BC⟩:=C6.o;have H:=qh CC;have DB:=qh C9;have DC:=qh CB;have DD:=qh CD;have AH:D (∀b∈F0,G.heap.size<=b/\b<F.heap.size):=qh (λb B=>⟨(AF b B).1,by have:=(AF b B).2;have:=AN.o;omega⟩);have AP:D (∀b∈F1,G.heap.size<=b/\w4.heap.size<=b/\b<F.heap.size):=qh (λb B=>⟨by have:=(A7 b B).1;have:=AN.o;omega,(A7 b B).1,(A7 b B).2⟩);have DE:D (∀b∈F1,b∉F0):=qh (λb B h=>by have:=(A7 b B).1;have:=(AF b h).2;omega);have AI:D (∀b∈F2,F.heap.size<b/\b<U.heap.size):=qh (λb B=>⟨by have:=(BC b B).1;have:=BB.o;omega,(BC b B).2⟩);have CE:=qh (Qe BA.o A6.o);have DF:D (Bi C.heap.size C U):=qh (Q0 l.o AO.o);have CF:D (F.heap.size<U.heap.size):=qh (by have:=BB.o;have:=C7.o;omega);have BD:D (C.heap.size<=G.heap.size):=qh (C3.o);have CG:D (G.heap.size<=F.heap.size):=qh (by have:=AN.o;omega);clear C8 C9 AF CA CB A7 CC CD BC;have BE:D (∀V,Bi G.heap.size G V->Rd (.slice Qr) V [A pw nw cw] (J8 bk p).1):=qh (λV h=>C2.o.kept (Am h));clear C2 s A3 C4 C5 B7 B9 C6 B8 AE A5 A6 BA HD BZ B1 BY AL C3 AN BB C7;go_upto_region 14 with((go_at_call 10;(with_reducible refine(Q9k _ _ _ _ _ H.o.rd (BE.o _ AO.o)).mono ?_);rintro e w7 ⟨rfl,B⟩;rw[B5.o];have BF:=qh B;clear B))
 have BG:D (Bi C.heap.size C w7):=qh (Q0 DF.o BF.o);go_upto_region 16 with(first|((go_at_call 11;(with_reducible refine(Qn3 _ _ _ bk bk (AG.o.rd.kept (Am CH.o)) DG.o).mono ?_);rintro e w9 ⟨rfl,B⟩;rw[D5.o];have AQ:=qh (Q0 CH.o B);have AR:=qh (Q0 DH.o B);clear B))|((go_at_call 7;(with_reducible refine(Q8s _ k bk (A1.o _ BG.o) AC.o).mono ?_);rintro e w8 ⟨v8,rfl,E,B⟩;obtain⟨q8,k8,rfl⟩:=Jo E;have DG:D (Rd (.slice Je) w8 [A q8 bk.length k8] bk):=qh (let ⟨_,o,_⟩:=E;o.rd);have CH:=qh (Q0 BF.o B);have DH:=qh (Q0 BG.o B);clear E B))|fail)
 have AS:D (Bi C.heap.size C w9.drew):=qh (AR.o.drew);have BH:D (Bi U.heap.size U w9.drew):=qh (AQ.o.drew);have CI:D (∀V,Bi C.heap.size C V->Bi U.heap.size U V->V.cell? ⟨w.heap.size,0,N⟩=R K/\V.cell? ⟨w.heap.size,1,N⟩=R L/\V.cell? ⟨w.heap.size,2,N⟩=R M/\V.cell? ⟨w.heap.size,3,N⟩=R O/\V.cell? ⟨w.heap.size,4,N⟩=R P/\V.cell? ⟨w.heap.size,5,N⟩=R S/\V.cell? ⟨w.heap.size,6,N⟩=R T/\V.cell? ⟨F.heap.size,0,N⟩=R (A u v x)/\V.cell? ⟨F.heap.size,1,N⟩=R (I Z y)/\V.cell? ⟨F.heap.size,2,N⟩=R (I Z z)/\V.cell? ⟨F.heap.size,3,N⟩=R (I Z ra)/\V.cell? ⟨F.heap.size,4,N⟩=R (A qb nb cb)/\V.cell? ⟨F.heap.size,5,N⟩=R (A qd nd cd)/\V.cell? ⟨F.heap.size,6,N⟩=R (I Z aa)):=qh (λV h1 h2=>by obtain⟨x0,x1,x2,x3,x4,x5,x6⟩:=HK.o V h1;obtain⟨y0,y1,y2,y3,y4,y5,y6⟩:=Q2t (Qe CE.o h2);exact⟨x0,x1,x2,x3,x4,x5,x6,y0,y1,y2,y3,y4,y5,y6⟩);obtain⟨J,W,X,Y,f,g,i,b0,b1,b2,b3,b4,b5,b6⟩:=CI.o _ AR.o AQ.o;have AJ:=Ac w9 _ J;have CJ:=Ac w9 _ b0;simp only at AJ CJ;go_cut [63] (λa t=>a=.bool Bm/\D (Bi C.heap.size C t)/\D (Bi U.heap.size U t))
 case first=>
  go_region_held3(λV=>V.cell? ⟨w.heap.size,0,N⟩=R K/\V.cell? ⟨w.heap.size,1,N⟩=R L/\V.cell? ⟨w.heap.size,2,N⟩=R M/\V.cell? ⟨w.heap.size,3,N⟩=R O/\V.cell? ⟨w.heap.size,4,N⟩=R P/\V.cell? ⟨w.heap.size,5,N⟩=R S/\V.cell? ⟨w.heap.size,6,N⟩=R T/\V.cell? ⟨F.heap.size,0,N⟩=R (A u v x)/\V.cell? ⟨F.heap.size,1,N⟩=R (I Z y)/\V.cell? ⟨F.heap.size,2,N⟩=R (I Z z)/\V.cell? ⟨F.heap.size,3,N⟩=R (I Z ra)/\V.cell? ⟨F.heap.size,4,N⟩=R (A qb nb cb)/\V.cell? ⟨F.heap.size,5,N⟩=R (A qd nd cd)/\V.cell? ⟨F.heap.size,6,N⟩=R (I Z aa))
   (((refine CI.o _ ?_ ?_)<;>(first|with_reducible exact A8.o|with_reducible exact CK.o|with_reducible exact AS.o|with_reducible exact AR.o|with_reducible exact m.o|with_reducible exact BI.o|with_reducible exact BH.o|with_reducible exact AQ.o)))
   (first
    |((go_at_call 12;(with_reducible refine(Qh2 _ [A u v x,I Z y,I Z z,I Z ra,A qb nb cb,A qd nd cd,I Z aa] CL p p (A0.o.rd.kept (Am BI.o)) DI.o).mono ?_);rintro e CM ⟨rfl,B⟩;rw[D6.o];have A8:=qh (Q0 CK.o B);have m:=qh (Q0 BI.o B);clear B))
    |((go_at_call 8;(with_reducible refine(Q8x _ [K,L,M,O,P,S,T] p (A2.o _ AS.o) AD.o).mono ?_);rintro e DJ ⟨CL,rfl,E,B⟩;have DI:D (Rd Qr DJ CL p):=qh (let ⟨_,o,_⟩:=E;o.rd);have CK:=qh (Q0 AS.o B);have BI:=qh (Q0 BH.o B);clear E B))
    |fail)
  all_goals(go_wp2_with fail;go_meet)
  all_goals exact⟨rfl,A8.o,m.o⟩
 case rest=>
 rename Bh=>CM
 obtain⟨rfl,A8,m⟩:=hcut;clear J W X Y f g i b0 b1 b2 b3 b4 b5 b6 AJ CJ BG BF AQ AS BH AR;have AG:=qh (AG.o.kept λb B=>m.o.block b (by have:=(AH.o b B).2;have:=CF.o;omega));have A0:=qh (A0.o.kept λb B=>m.o.block b (by have:=(AP.o b B).2.2;have:=CF.o;omega));have H:=qh (H.o.kept λb B=>m.o.block b (AI.o b B).2);have BJ:=qh (Qe CE.o m.o);have BK:D (Bi G.heap.size G CM):=qh (Q0 AO.o m.o);have DY:=qh m.o.size;have HH:D ((1:Int)+(Z9 Je bk:Nat)<=1000000000/\(1:Int)+(Z9 Je bk:Nat)+(Z9 Q3 p.1.1:Nat)+(Z9 Q4 p.1.2.2.2:Nat)+(Z9 Qc p.2.1:Nat)<=1000000000/\(1:Int)+(Z9 Qr (J8 bk p).1:Nat)<=1000000000):=qh (by obtain⟨h1,h2,h3,h4⟩:=D3.o;have h5:=D4.o;omega);go_upto_region 20 with((go_at_call 13;(with_reducible refine(Qie _ _ bk F0 1 AG.o DB.o (by omega) HH.o.1).mono ?_);rintro e BL ⟨rfl,-,hf⟩;have A9:=qh hf;clear hf))
 have CN:D (BL.heap[F.heap.size]?=R (.cells #[A u v x,I Z y,I Z z,I Z ra,A qb nb cb,A qd nd cd,I Z aa] 46 (0,0))):=qh ((A9.o.block _ (Zb BJ.o) (λh=>by have:=(AH.o _ h).2;omega)).trans BJ.o);have A0:=qh (A0.o.frame A9.o λb B=>⟨A0.o.lt b B,DE.o b B⟩);have H:=qh (H.o.frame A9.o λb B=>⟨H.o.lt b B,λh=>by have:=(AH.o b h).2;have:=(AI.o b B).1;omega⟩);have BM:D (Bi C.heap.size C BL):=qh (A8.o.trans (A9.o.below A8.o.size (λc j=>by have:=(AH.o c j).1;have:=BD.o;omega)));have BN:D (Bi G.heap.size G BL):=qh (BK.o.trans (A9.o.below BK.o.size (λc j=>(AH.o c j).1)));obtain⟨b0,b1,b2,b3,b4,b5,b6⟩:=Q2t CN.o;go_upto_region 21 with((go_at_call 14;(with_reducible refine(Qhw _ [A u v x,I Z y,I Z z,I Z ra,A qb nb cb,A qd nd cd,I Z aa] p F1 _ A0.o DC.o (by omega) HH.o.2.1).mono ?_);rintro e CO ⟨rfl,hf⟩;have AT:=qh hf;clear hf))
 clear b0 b1 b2 b3 b4 b5 b6;have H:=qh (H.o.frame AT.o λb B=>⟨H.o.lt b B,λh=>by have:=(AP.o b h).2.2;have:=(AI.o b B).1;omega⟩);have CP:D (Bi C.heap.size C CO):=qh (BM.o.trans (AT.o.below BM.o.size (λc j=>by have:=(AP.o c j).1;have:=BD.o;omega)));have BO:D (Bi G.heap.size G CO):=qh (BN.o.trans (AT.o.below BN.o.size (λc j=>(AP.o c j).1)));clear AG A0 A8 BM BK BN BJ CN A9 AT AO A4;have DK:(0:Int)<=(1:Int)+(Z9 Je bk:Nat)+(Z9 Q3 p.1.1:Nat)+(Z9 Q4 p.1.2.2.2:Nat)+(Z9 Qc p.2.1:Nat):=by omega
 go_upto_region 24 with((go_at_call 10;(with_reducible refine(Q9k _ _ _ _ _ H.o.rd (BE.o _ BO.o)).mono ?_);rintro e CQ ⟨rfl,B⟩;rw[B5.o];have AU:=qh B;clear B))
 have H:=qh (H.o.kept λb B=>AU.o.block b (H.o.lt b B));have BP:D (Bi C.heap.size C CQ):=qh (Q0 CP.o AU.o);have BQ:D (Bi G.heap.size G CQ):=qh (Q0 BO.o AU.o);clear CP BO AU DK;go_upto_region 26 with((go_at_call 15;(with_reducible refine(Qfi _ _ (J8 bk p).1 F2 1 H.o DD.o (by omega) HH.o.2.2).mono ?_);rintro e CR ⟨rfl,ho,hf⟩;have CS:=qh ho;have BR:=qh hf;clear ho hf))
 have CT:D (Bi C.heap.size C CR):=qh (BP.o.trans (BR.o.below BP.o.size (λc j=>by have:=(AI.o c j).1;have:=BD.o;have:=CG.o;omega)));have CU:D (Bi G.heap.size G CR):=qh (BQ.o.trans (BR.o.below BQ.o.size (λc j=>by have:=(AI.o c j).1;have:=CG.o;omega)));have BS:=qh CS.o.rd;clear H BP BQ BR CS;have DZ:(0:Int)<=(1:Int)+(Z9 Qr (J8 bk p).1:Nat):=by omega
 go_upto_region 31 with((go_at_call 16;(with_reducible refine(Q9y _ _ (J8 bk p).1 1 BS.o (by omega) HH.o.2.2).mono ?_);rintro e q ⟨rfl,B⟩;have AV:=qh B;clear B))
 have CV:=qh (BS.o.kept (Am AV.o));have AK:D (Bi C.heap.size C q):=qh (Q0 CT.o AV.o);have CW:D (Bi G.heap.size G q):=qh (Q0 CU.o AV.o);have AW:D (Bi C.heap.size C q.drew):=qh (AK.o.drew);have CX:D (Bi q.heap.size q q.drew):=qh ((Ai _ _).drew);clear CT CU BS AV;obtain⟨J,W,X,Y,f,g,i⟩:=HK.o _ AK.o;have AJ:=Ac q _ J;simp only at AJ;go_cut [15,16] (λa b t=>∃(pu:Option Cm) (n cu:Nat),a=A pu n cu/\b=I Z (J8 bk p).2/\D (Rd (.slice Qr) t [A pu n cu] (J8 bk p).1)/\D (Bi q.heap.size q t))
 case first=>
  go_region_held3(λV=>V.cell? ⟨w.heap.size,0,N⟩=R K/\V.cell? ⟨w.heap.size,1,N⟩=R L/\V.cell? ⟨w.heap.size,2,N⟩=R M/\V.cell? ⟨w.heap.size,3,N⟩=R O/\V.cell? ⟨w.heap.size,4,N⟩=R P/\V.cell? ⟨w.heap.size,5,N⟩=R S/\V.cell? ⟨w.heap.size,6,N⟩=R T)
   (((refine HK.o _ ?_);(first|with_reducible exact BT.o|with_reducible exact CY.o|with_reducible exact BU.o|with_reducible exact AW.o|with_reducible exact AK.o)))
   (first
    |((go_at_call 9;(with_reducible refine(Qjq _ CZ D0 bk BV.o AY.o _ p DL.o B4.o).mono ?_);rintro e AX ⟨E0,rfl,E,B⟩;obtain⟨DM,DN,rfl⟩:=Jo E;have BW:D (Rd (.slice Qr) AX [A DM (J8 bk p).1.length DN] (J8 bk p).1):=qh (let ⟨_,o,_⟩:=E;o.rd);have BT:=qh (Q0 CY.o B);have AA:=qh (Q0 DO.o B);clear E B))
    |((go_at_call 8;(with_reducible refine(Q8x _ [K,L,M,O,P,S,T] p (A2.o _ BU.o) AD.o).mono ?_);rintro e D1 ⟨DP,rfl,E,B⟩;have DL:D (Rd Qr D1 DP p):=qh (let ⟨_,o,_⟩:=E;o.rd);have BV:=qh (DQ.o.kept B);have BV:D (Rd (.slice Je) D1 [A CZ bk.length D0] bk):=qh (let ⟨_,o,_⟩:=BV.o;o.rd);have CY:=qh (Q0 BU.o B);have DO:=qh (Q0 DR.o B);clear E B))
    |((go_at_call 7;(with_reducible refine(Q8s _ k bk (A1.o _ AW.o) AC.o).mono ?_);rintro e E1 ⟨E2,rfl,E,B⟩;obtain⟨CZ,D0,rfl⟩:=Jo E;have DQ:=qh E;have BU:=qh (Q0 AW.o B);have DR:=qh (Q0 CX.o B);clear E B))
    |fail)
  all_goals(go_wp2_with fail;go_meet)
  all_goals exact⟨_,_,_,rfl,rfl,BW.o,AA.o⟩
 case rest=>
 rename Bh=>AX
 obtain⟨ph,nh,ch,rfl,rfl,DS,AA⟩:=hcut;clear J W X Y f g i AJ AW CX;have BW:=qh (CV.o.kept (Am AA.o));have BT:D (Bi C.heap.size C AX):=qh (Q0 AK.o AA.o);have DT:D (Bi G.heap.size G AX):=qh (Q0 CW.o AA.o);clear CV AK CW AA;go_wp2_with(first|((go_at_call 16;(with_reducible refine(Q9y _ _ (J8 bk p).1 1 DU.o (by omega) HH.o.2.2).mono ?_);rintro e E3 ⟨rfl,B⟩;have DV:=qh (Q0 DW.o B);clear B))|((go_at_call 10;(with_reducible refine(Q9k _ _ _ _ _ DS.o (BE.o _ DT.o)).mono ?_);rintro e E4 ⟨rfl,B⟩;rw[B5.o];have DW:=qh (Q0 BT.o B);have DU:=qh (BW.o.kept (Am B));clear B))|fail)
 go_ret;exact⟨rfl,r.o.trans (DV.o.mono r.o.size)⟩
def Qpk(P:Eq)(r:Ty->Cf->Bool):Ty->List Field->Nat->Bool
 |t,[f],o=>f.offset==o && P.cellsOf f.type==t.sz && r t f.type
 | .pair a b,f::g::fs,o=>f.offset==o && P.cellsOf f.type==a.sz && r a f.type && Qpk P r b (g::fs) (o+a.sz)
 |_,_,_=>Bm
def Qp1(P:Eq):Nat->Ty->Cf->Bool
 |0,_,_=>Bm
 |n+1,t,T=>
  match P.underlying T,t with
  |some (TypeDesc.int Z),.int=>Bn
  |some (.slice E),.slice e=>P.cellsOf E==e.sz && Qp1 P n e E
  |some (.struct fs),t=>P.cellsOf T==t.sz && Qpk P (Qp1 P n) t fs.toList 0
  |_,_=>Bm
section
variable {H:Type} {ecc:Cf×Bk->H} {P:Eq} {w:Bh} {sp:Nat->Bool} {held:Bool}
theorem Qld{r:Ty->Cf->Bool}(m:Nat)
  (F:∀(t:Ty) (T:Cf) (cs:List Bk) (x:DataW H×List MemPlace),r t T=Bn->DataW.trod ecc P w 0 sp held m T cs=R x->∃d,Rx t w cs d) (cs:List Bk):
  ∀(t:Ty) (C:List Field) (o:Nat),Qpk P r t C o=Bn->cs.length=o+t.sz->(∀f∈C,∃x,DataW.trod ecc P w 0 sp held m f.type ((cs.drop f.offset).take (P.cellsOf f.type))=R x)->∃d,Rx t w (cs.drop o) d
 |t,[f],o,B,G,ha=>by
  have B:(f.offset==o && P.cellsOf f.type==t.sz && r t f.type)=Bn:=by cases t<;>exact B
  simp only[Bl,beq_iff_eq]at B;obtain⟨⟨J,K⟩,L⟩:=B;obtain⟨x,E⟩:=ha f (Bb.2 rfl);rw[J,K,Ao (by rw[List.length_drop];omega)]at E;exact F t f.type _ x L E
 | .pair a b,f::g::C,o,B,G,ha=>by have B:(f.offset==o && P.cellsOf f.type==a.sz && r a f.type && Qpk P r b (g::C) (o+a.sz))=Bn:=B;simp only[Bl,beq_iff_eq]at B;obtain⟨⟨⟨J,K⟩,L⟩,M⟩:=B;have G:cs.length=o+(a.sz+b.sz):=G;obtain⟨x,E⟩:=ha f (Ae ..);rw[J,K]at E;obtain⟨O,S⟩:=F a f.type _ x L E;obtain⟨U,V⟩:=Qld m F cs b (g::C) (o+a.sz) M (by omega) (λW X=>ha W (Aa _ X));refine⟨(O,U),_,_, ?_,S,V⟩;rw[<-List.drop_drop,List.take_append_drop]
 | .int,f::g::C,o,B,_,_=>by cases B
 | .bool,f::g::C,o,B,_,_=>by cases B
 | .slice e,f::g::C,o,B,_,_=>by cases B
 | .int,[],o,B,_,_=>by cases B
 | .bool,[],o,B,_,_=>by cases B
 | .slice e,[],o,B,_,_=>by cases B
 | .pair a b,[],o,B,_,_=>by cases B
theorem Qdg{a:Cm}{n:Nat}{cs:List Bk}(h:w.cells? 0 a n=R cs):cs.length=n/\∀j (B:j<cs.length),w.cell? (a.add j)=R cs[j]:=by
 unfold World.cells? at h;rw[if_pos (Ak _)]at h;have C:=mapM_some_length h;rw[List.length_range]at C;refine⟨C,λj B=> ?_⟩;have:=mapM_some_get h j j (by rw[List.getElem?_range (by omega)]);rw[this,Ad B]
theorem Qgs(b o n:Nat):(⟨b,o,N⟩:Cm).add n=⟨b,o+n,N⟩:=by
 unfold Addr.add;split<;>simp_all
theorem Qka:∀(t:Ty),0<t.sz
 | .int=>Nat.one_pos
 | .bool=>Nat.one_pos
 | .slice _=>Nat.one_pos
 | .pair a b=>by have:=Qka a;show 0<a.sz+b.sz;omega
theorem Qc5:∀(n:Nat) (t:Ty) (T:Cf) (m:Nat) (cs:List Bk) (x:DataW H×List MemPlace),Qp1 P n t T=Bn->DataW.trod ecc P w 0 sp held m T cs=R x->∃d,Rx t w cs d
 |0,_,_,_,_,_,h,_=>by cases h
 |n+1,t,T,m,cs,x,h,hx=>by
  unfold Qp1 at h;split at h
  ·rename_i J
   obtain⟨k,rfl,-,Y⟩:=DataW.trod_int J hx;refine⟨k,rfl, ?_⟩;simp[Lit.wf,IntKind.min,IntKind.max,IntKind.signed,IntKind.bits]at Y;unfold Qqm;omega
  ·rename_i E e J
   simp only[Bl,beq_iff_eq]at h;rcases DataW.trod_slice J hx with⟨rfl,-⟩|⟨a,F,c,A0,rest,k,rfl,rfl,-,-,hc,hm,A1,g,-⟩
   ·exact⟨[],_,rfl,N,0,rfl,Aj _,Ak _,λi B=>by simp at B⟩
   ·have X:∀i,i<F->∃(cs:List Bk) (y:DataW H×List MemPlace),w.cells? 0 (a.add (i * e.sz)) e.sz=R cs/\DataW.trod ecc P w 0 sp held k E cs=R y:=by
     intro i B;have C:=g i B;rw[Ad (by omega)]at C;obtain⟨cs,G,O⟩:=Option.bind_eq_some_iff.1 C;rw[h.1]at G;exact⟨cs,_,G,O⟩
    have l:0<F->a.spot=N:=by intro L;obtain⟨cs,-,G,-⟩:=X 0 L;obtain⟨K,S⟩:=Qdg G;have:=World.cell?_spot (S 0 (by rw[K];exact Qka e));simpa[Addr.add]using this
    have M:∀i,i<F->∃(d:e.den) (cs:List Bk),a.spot=N/\cs.length=e.sz/\Qqw w a.block (a.off+i * e.sz) cs/\Rx e w cs d:=by intro i B;obtain⟨cs,y,G,O⟩:=X i B;obtain⟨K,S⟩:=Qdg G;obtain⟨d,p⟩:=Qc5 n e E _ cs y h.2 O;have U:=l (by omega);refine⟨d,cs,U,K,λj q=> ?_,p⟩;have L:=S j q;obtain⟨b,o,s⟩:=a;simp only at U;subst U;rw[Qgs,Qgs]at L;exact L
    obtain⟨xs,V,r⟩:∃xs:List e.den,xs.length=F/\∀i (B:i<xs.length),∃cs:List Bk,a.spot=N/\cs.length=e.sz/\Qqw w a.block (a.off+i * e.sz) cs/\Rx e w cs xs[i]:=by
     refine⟨List.ofFn λi:Fin F=>(M i.1 i.2).choose,by simp,λi B=> ?_⟩;have u:i<F:=by simpa using B
     obtain⟨cs,C⟩:=(M i u).choose_spec;refine⟨cs, ?_⟩;rw[List.getElem_ofFn];exact C
    refine⟨xs,_,rfl,R a,c,by rw[V],by omega,by omega,λi B=> ?_⟩;obtain⟨cs,C,W,v,z⟩:=r i B;refine⟨a.block,a.off, ?_,cs,W,v,z⟩;obtain⟨b,o,s⟩:=a;simp only at C;rw[C]
  ·rename_i t o' t' fs J
   simp only[Bl,beq_iff_eq]at h;obtain⟨xs,k,rfl,-,K,V,M⟩:=DataW.trod_struct J hx;have:=Qld (ecc:=ecc) (sp:=sp) (held:=held) k (λt T cs x=>Qc5 n t T k cs x) cs t fs.toList 0 h.2 (by rw[K,h.1,Nat.zero_add]) (λf hf=>by
    obtain⟨i,B,he⟩:=Av.1 hf;have C:=M i f (by rw[<-Array.getElem?_toList,Ad B,he]);have W:i<xs.length:=by rw[V];simpa using B
    exact⟨xs[i],by rw[C,Ad W]⟩)
   simpa using this
  ·cases h
end
open Go.ChangeShapes Go.WideShapes Go.ChangeAt Go.RowKit
theorem Qq3:ownKnob prog.godebug=N:=by kernel_rfl
theorem Qp3:laidOutB prog=Bn:=by kernel_rfl
theorem Qpm:Qp1 prog 9 (.slice Je) 22=Bn:=by kernel_rfl
theorem Qpl:Qp1 prog 9 Qr 31=Bn:=by kernel_rfl
theorem Qq5:∃B,prog.underlying 31=R (.struct B):=by
 have h:((prog.underlying 31).map λd=>match d with| .struct _=>Bn|_=>Bm)=R Bn:=by kernel_rfl
 cases hu:prog.underlying 31 with
 |none=>rw[hu]at h;cases h
 |some d=>rw[hu]at h;cases d<;>first|exact⟨_,rfl⟩|cases h
theorem Qkr(H:Type)(Qq8:Cf×Bk->H)(W:Bh)(Y:Nat)(B:Array Bk)(M d:List (DataW H))(Q03:List MemPlace)
  (F:∀(j:Nat) t v,Tryz.f3.params[j]?=R t->B[j]?=R v->Value.okWide prog W .any Y t v)
  (G:DataW.Whole Qq8 prog Tryz.f3.params.toList Rows.fnExactSuccessorsOfSpec.vars Bm W B.toList M d Q03):
  Calls prog 3 B W λe O=>∃v,e=.returned v/\Rows.fnExactSuccessorsOfSpec.post Qq8 prog Tryz.f3 Bm Bn Bm Bm W B v O:=by
 have P:=G;have C:=G.lt;obtain⟨p,q,S,f,rfl,A0,A1⟩:=G;have T:DataW.TrodAll Qq8 prog W 0 (λ_=>Bn) Bn Tryz.f3.params.toList B.toList M p:=S;rw[Tryz.params3]at T F;obtain⟨g,v1,i,k,J,K,rfl,rfl,rfl,U,V⟩:=trodAll_two T;obtain⟨rfl,rfl⟩:=trodVars_none f;have l:=U;have m:=V;obtain⟨m0,o⟩:=U;obtain⟨m1,r⟩:=V;obtain⟨bk,s⟩:=Qc5 9 _ _ _ _ _ Qpm o;obtain⟨u,w⟩:=Qc5 9 _ _ _ _ _ Qpl r;obtain⟨a,n,c,rfl⟩:=okWide_slice underlying22 (F 0 22 g rfl rfl);obtain⟨fs,y⟩:=Qq5;obtain⟨cs,rfl,-⟩:=okWide_struct y (F 1 31 v1 rfl rfl);clear S;simp only[List.append_nil]at P C;have X:=Qpp W (A a n c) bk cs.toList u s w;rw[show cs.toList.toArray=cs from rfl]at X;refine X.mono λe O ⟨z,hb⟩=>⟨_,z, ?_⟩;have A2:∀p∈J++K,(λb=>decide (b<W.heap.size)) p.block=Bn:=λp E=>by simpa using C p E
 refine⟨[i,k],[],J++K,[],J++K,[],P,trodAll_mk1 (shut_bool underlying4 _), ?_,rfl,World.keptBut_mono (λp E=>⟨E,.inr (.inl E)⟩) (hb.frame _),λh=>by cases h⟩;exact trodAll_mk2 (Below.trod Qp3 (by kernel_rfl) (of_decide_eq_true (by kernel_rfl)) l hb λx L=>C x (Ag _ L)) (Below.trod Qp3 (by kernel_rfl) (of_decide_eq_true (by kernel_rfl)) m hb λx L=>C x (Af _ L))
theorem Qo3(B:Os)(E:B.Started)(H:Type)(Qq8:Cf×Bk->H):
  ReturnsInHanded {} Tryz.checked B 3 .any (Rows.fnExactSuccessorsOfSpec.pre6 Qq8 prog Tryz.f3 Rows.fnExactSuccessorsOfRow.domain Bm) (Rows.fnExactSuccessorsOfSpec.post Qq8 prog Tryz.f3 Bm Bn Bm Bm):=by
 refine returnsInHanded_of_change (C:=Tryz.checked) Qq3 E (by kernel_rfl) func3
  (ChangeSpec.witness6 (enc:=Qq8) (C:=Tryz.checked) Bm ⟨#[],#[A N 0 0,.agg #[A N 0 0,I Z 0,I Z 0,I Z 0,A N 0 0,A N 0 0,I Z 0]],[]⟩ 8 (by kernel_rfl) (by kernel_rfl) (by kernel_rfl) (by kernel_rfl)) ?_
 intro W F G J K Q03 L M _ _;exact Qkr H Qq8 W F G J K Q03 L M
theorem succ_holds:Rows.FnExactSuccessorsOfSaid:=
 OpenClaim.holds_of_wide 3 Tryz.f3 rfl rfl rfl rfl rfl rfl rfl ⟨rfl,rfl,rfl,rfl,rfl⟩ rfl rfl rfl rfl rfl (by kernel_rfl) func3 (by kernel_rfl)
  (of_decide_eq_true (by kernel_rfl)) (by unfold Func.isWrapper;first|(rw[if_pos (by decide+kernel)];kernel_rfl)|(rw[if_neg (by decide+kernel)];exact⟨rfl,rfl⟩))
  (λB C H Qq8 _=>Qo3 B C H Qq8)
end Go.Proofs.YthbpkpnioaniiaaGreat
