import Derived.Test.YtcjngpfigpglfaaGreatDoorP06
set_option maxHeartbeats 0
set_option maxRecDepth 100000
set_option linter.all false
namespace Go.Proofs.YtcjngpfigpglfaaGreatDoor
open Go.RowKit Go.Proofs.Tryz
open Go.Value renaming int->I,slice->A
open Go.IntKind renaming i64->Z
open Option renaming none->N,some->R
open OC(oC)
open OR(oR)
open JN(jN)
open Bool renaming false->Bm,true->Bn,and_eq_true->Bi,or_eq_true->Ew,and_false->Ej,false_and->Ct,false_eq_true->Dc
open Go renaming maxLen->Bu,heap_alloc_new->Bg
open Go.Addr.mk renaming injEq->Cq
open Int renaming toNat_natCast->Bq
open List renaming foldl_cons->Cb,length_cons->Br,range->Bz,range_succ->En,foldl_append->Dj,set_set->He,set_comm->Ig,set_eq_of_length_le->If,length_append->Bo,append_nil->Cl,drop_eq_getElem_cons->Dq,mem_flatMap->Cz,mem_map->Dx,mem_range->Cy,mem_filter->Di,flatMap_cons->Cr
open Nat renaming mul_one->Cc,add_zero->Cw,reduceAdd->Bj,zero_mul->Dm,not_lt_zero->Dh
open Ne renaming symm->Hv
open Option.some renaming injEq->Bt
def Qtv(n:Nat)(l:List Nat)(L:List Int):Prop:=∀a∈L,∃q:Nat,a=(q:Int)/\q<n/\q∉l
theorem Q1x(m:Qyb)(l:Int):∀n,(Yy m l n).2.length=n
 |0=>rfl
 |n+1=>by simp[Yy,Q1x m l n]
def Qqm(m:Qyb)(l:Int):∀n,mX (Yy m l n).1=mX m
 |0=>rfl
 |n+1=>by show mX (Yy m l n).1=_;exact Qqm m l n
theorem Qcj(m:Qyb)(l:Int):∀n,(mC (Yy m l n).1).length=(mC m)
 |0=>rfl
 |n+1=>by simp only[Yy,Qg,Qcj m l n]
theorem Qad(x y:Qb)(B:List Int):∀(l:List Nat) (m:Qyb),(mC (l.foldl (Zr x y B) m)).length=(mC m)
 | [],_=>rfl
 |a::l,m=>by rw[Cb,Qad x y B l];exact Q2a
theorem Qa5(x y:Qb)(B:List Int):∀(l:List Nat) (m:Qyb),mX (l.foldl (Zr x y B) m)=mX m
 | [],_=>rfl
 |a::l,m=>by rw[Cb,Qa5 x y B l];rfl
theorem Qoi(w pb po m S)(h:Zh w pb po m S)(xb xo yb yo)(V d M:Int)(f:List Int)(C:List Wd)(Gx)(U E g:Int)(G:List Int)(J:List Wd)(Gy)(hx:Q5p Q4 w xb xo (V,d,M,f,C) Gx)(hy:Q5p Q4 w yb yo (U,E,g,G,J) Gy)(ax:Qao (xb::Gx) pb S)(ay:Qao (yb::Gy) pb S)(c l)(hl:Yq m (c::l))(BX:C.length<=l)(hw:C.length<=1000)(B6:0<J.length)(BY:0<G.length)(hd:U=10->0<=M/\M<G)(B7:U≠10->2<=G.length)(hX:(mX m).length<=1000000):
  Calls prog 245 #[(pb,po),(xb,xo),(yb,yo)] w λe w'=>∃v' S' l',e=.returned v'/\Qn w S pb po w' (Jx m (V,d,M,f,C) (U,E,g,G,J)).1 S' l'/\Yp w S' w' v' (Jx m (V,d,M,f,C) (U,E,g,G,J)).2:=by
 have AD:=qh (Qn.start h hl);obtain⟨F0,F1,D3,BZ,ix,-,D4,B8⟩:=hx.facts ax;obtain⟨F2,F3,F5,D5,iy,D6,D7,C0⟩:=hy.facts ay;unfold Bu at D4 D6 D7;have AT:=qh B8;have A7:=qh C0;have F6:=qh ix;have C1:=qh iy;have D8:=qh BX;have AU:=D (pb<w/\S.cb<w) (⟨h.lt pb Ae,h.lt S.cb (Aa _ Ae)⟩);have D9:=qh h.lt;have DA:=D (¬(yb=pb\/yb=S.cb)) (λe=>ay yb Ae (e.elim (λe=>e▸Ae) (λe=>Aa _ (Q20 e))));have B9:=D (xb≠S.cb/\∀b o,D3=R ⟨b,o,N⟩->C≠ []->b≠S.cb) (by refine⟨λe=>ax xb Ae (Aa _ (Q20 e)),λb o hp DB e=> ?_⟩;obtain⟨us,h1,h2,h3,h4⟩:=hx;obtain⟨F7,F8,F9,FA,Gd,Gw,rfl,rfl,FB,DC,i1,i2,i3⟩:=h3.agent;have e4:=(B8 w (Q1.refl _ _)).1.2.2.2.2;have e5:=(Q5v h2).2.2.2.2;rw[e4]at e5;simp only[Bt,Value.slice.injEq]at e5;have n:=DC.block0 (e5.1.symm.trans hp) DB;exact ax b (Aa _ (Af _ n)) (Aa _ (Q20 e)));clear B8 C0 ix iy h hx hy ax ay BX;obtain⟨⟨y0,y1,y2,y3,y4⟩,AE,A8⟩:=A7.o w (Q1.refl _ _);obtain⟨⟨x0,x1,x2,x3,x4⟩,DD,DE⟩:=AT.o w (Q1.refl _ _);obtain⟨bd,od,rfl,A4⟩:=Rd.elem AE 0 BY;obtain⟨d0,C2⟩:=At.int A4;simp only[Ty.sz,Cc,Cw]at d0;have DF:=qh C2;clear A4 C2 DD DE;have FC:(0:Int)<G:=by omega
 have AV:Hd (Vx (V,d,M,f,C) (U,E,g,G,J)=if U==10 then G.getD M.toNat 0 else if M==0 then G.getD 1 0 else G.getD 0 0):=by show _=_;rfl
 have DG:=D (G[0]=G.getD 0 0) (by simp[List.getD_eq_getElem?_getD,BY]);go_enter func245,ntmps245;go_upto_if 23 with(fail)
 go_cut [7] (λu wx=>u=I Z (Vx (V,d,M,f,C) (U,E,g,G,J))/\Hd (Qyn (Vx (V,d,M,f,C) (U,E,g,G,J)))/\Hd (Qn w S pb po wx m S (c::l)))
 case first=>
  by_cases q:U=10
  ·subst q
   obtain⟨e1,e2⟩:=hd rfl;have C3:M.toNat<G:=by omega
   obtain⟨DH,DI,AG,A4⟩:=Rd.elem AE M.toNat C3;simp only[Bt,Cq,and_true]at AG;obtain⟨rfl,rfl⟩:=AG;obtain⟨dv,AH⟩:=At.int A4;simp only[Ty.sz,Cc]at dv;have HI:=qh AH;have HG:=D (Vx (V,d,M,f,C) (10,E,g,G,J)=G[M.toNat]) (by rw[AV.o];simp[List.getD_eq_getElem?_getD,C3]);clear A4 AH AE A8 hd B7;go_wp2
   go_quiet(fail)
   go_wp2;go_meet;exact⟨by rw[HG.o],(show Qyn _ by rw[HG.o];exact HI.o),AD.o.other (Y:=λ_=>False) ((Q1.refl _ _).drewN _) (λ_ h=>h.elim)⟩
  have qb:(U==10)=Bm:=by simpa using q
  have h2:=B7 q;obtain⟨DH,DI,AG,A4⟩:=Rd.elem AE 1 h2;simp only[Bt,Cq,and_true]at AG;obtain⟨rfl,rfl⟩:=AG;obtain⟨dv,AH⟩:=At.int A4;simp only[Ty.sz,Cc]at dv;have HI:=qh AH;have FD:(1:Int)<G:=by omega
  have HQ:=qh qb;clear A4 AH AE A8 hd B7 q;by_cases z:M=0
  ·subst z
   have HG:=D (Vx (V,d,0,f,C) (U,E,g,G,J)=G[1]) (by rw[AV.o,HQ.o];show G.getD 1 0=_;rw[Ab,Ad (by omega)];rfl);go_wp2
   go_meet;exact⟨by rw[HG.o],(show Qyn _ by rw[HG.o];exact HI.o),AD.o⟩
  have zb:(M==0)=Bm:=by simpa using z
  have HZ:=qh zb;have HG:=D (Vx (V,d,M,f,C) (U,E,g,G,J)=G[0]) (by rw[AV.o,HQ.o,HZ.o,DG.o];rfl);go_wp2
  go_meet;exact⟨by rw[HG.o],(show Qyn _ by rw[HG.o];exact DF.o),AD.o⟩
 obtain⟨rfl,C4,BA⟩:=hcut;rename World=>w0
 obtain⟨ch,BB⟩:∃ch,ch=Vx (V,d,M,f,C) (U,E,g,G,J):=⟨_,rfl⟩;rw[<-BB]at C4⊢;have DJ:=qh BB.symm;clear BB AV;obtain⟨⟨-,z1,-,-,-⟩,-,-⟩:=A7.o _ BA.o.fr;go_wp2_with(first|((go_at_call 243;refine(Q6h BA 12 E ch N N 0 0 0 0 (12,E,ch,[],[]) [] (Ow.mkAgent (by unfold Qyn;omega) C1.o.2.1 C4 (Ow.nil _) (Ow.nil _)) (by simp) (by simp) (by simp)).mono ?_;rintro e w1 ⟨rfl,hs,hf⟩;have AW:=qh hs;have DK:=qh hf;clear hs hf)))
 have C5:=D (Below w1 w1 (w1.alloc (.cells #[] 2))) (by go_grown);have AX:=qh (AW.o.below C5);have C6:=D (Je .int w (S.put c []) (w1.alloc (.cells #[] 2)) (A (R (w1,0)) 0 0) []) (Je.ofOwn (Q0d (t:=.int) (T:=2) w1 w1 rfl rfl) rfl AW.o.fr.size (λb n=>AW.o.mem.lt b (Aa _ n)));obtain⟨P,AI⟩:∃P,P=Qi m (12,E,ch,[],[]):=⟨_,rfl⟩;rw[<-AI]at AX;have DL:=qh AI;have DM:=D ((mX P).length<=1000000) (by rw[AI];exact hX);have DN:=D (c∉l) ((Ar.1 (Jm.nodup AD.o.free)).1);have DO:=D (c<(mC P)) (by rw[AI,Qg];exact(AD.o.first Z6).2.1);have BC:=D ((mC P).length<=9223372036854775807) (by have k:=AX.o.mem.cells.bound;unfold Bu at k;omega);clear AI AW DK C5 hX z1 BA hl y0 y1 y2 y3 y4 x0 x1 x2 x3 x4 D9 d0 AE A8;generalize S.put c []=S1 at *
 generalize w1.alloc (.cells #[] 2)=W2 at *
 go_loopw [9,10] (λu i wr=>∃(j:Nat) (S':MS) (l':List Nat),j<=C/\i=I Z j/\Hd (Qn w S pb po wr (Yy P E j).1 S' l')/\Hd (Je .int w S' wr u (Yy P E j).2)/\Hd (C.length<=l'.length+j)/\Hd (Qtv (mC P) l' (Yy P E j).2)/\Hd (c∉l')) (λ_ i _=>C.length-(intOf i).toNat);case atStart=>exact⟨0,S1,l,Ak _,rfl,AX.o,C6.o,D8.o,(λa ha=>by simp[Yy]at ha),DN.o⟩
 obtain⟨j,S',l',hj,rfl,p,HA,C7,AJ,DP⟩:=hrel;clear AX C6;obtain⟨⟨-,-,-,-,x4⟩,-,-⟩:=AT.o _ p.o.fr;obtain⟨⟨-,y1,-,-,-⟩,-,-⟩:=A7.o _ p.o.fr;have DQ:=qh (Q1x P E j);have C8:=qh (Qcj P E j);by_cases FE:j<C
 ·obtain⟨a,l2,rfl⟩:∃a l2,l'=a::l2:=by
   match l',(show 0<l'.length by have:=C7.o;omega)with
   |a::l2,_=>exact⟨a,l2,rfl⟩
  have BD:=D (Yy P E (j+1)=(Qi (Yy P E j).1 (3,E,0,[],[]),(Yy P E j).2++ [mF (Yy P E j).1])) (rfl);generalize Yy P E j=Fj at *
  obtain⟨mj,aj⟩:=Fj;have p:=D (Qn w S pb po wr mj S' (a::l2)) (p.o);obtain⟨pa,ca,rfl⟩:=HA.o.form;obtain⟨Fa,C9⟩:=HA.o;have A1:=qh C9;have AY:=D (mF mj=(a:Int)/\a<(mC mj).length) (⟨(p.o.first Z6).1,(p.o.first Z6).2.1⟩);have CA:=D (Qyn (a:Int)) (by have h1:=AY.o.2;have h2:(mC mj).length=(mC P):=C8.o;have:=BC.o;unfold Qyn;omega);have FF:=qh p.o.cb;have FG:=p.o.fr.size;obtain⟨ii,DR,DS,DT,DU⟩:=info_parts Q2v;clear C9;have FH:(0:Int)<=j:=by omega
  have FI:(j:Int)<C:=by omega
  have FJ:yb<w:=(Ac w _ (A7.o w (Q1.refl _ _)).1.1);have FK:¬(yb=pb\/yb=S.cb):=DA.o;go_wp2_with(first|((go_at_call 243;refine(Q6h p.o 3 E 0 N N 0 0 0 0 (3,E,0,[],[]) [] (Ow.mkAgent (by unfold Qyn;omega) C1.o.2.1 (by unfold Qyn;omega) (Ow.nil _) (Ow.nil _)) (by simp) (by simp) (by simp)).mono ?_;rintro e w3 ⟨rfl,hs,hf⟩;have DV:=qh hs;have BE:=qh hf;clear hs hf))|((at_builtin;refine Q1a _ rfl (.tmp 63) (.tmp 71) 34 rfl (e:=.int) 2 ii _ 8 underlying34 DR DS DT DU rfl (by decide) (v:=A pa aj ca) (xs:=aj) (y:=(a:Int)) (vs:=[a]) (F:=Fa) w3 1 rfl rfl ((A1.o.1.frame BE (λb k=>⟨A1.o.1.lt b k,λe=>by have:=(A1.o.2.2 b k).1;have:=AU.o;omega⟩)).kept λb k=>Az _ _ _ (Ap (A1.o.1.lt b k) BE.o.size)) A1.o.2.1 ⟨rfl,CA.o,rfl⟩ (Qio (Q6 (Bg w3 _) rfl)) (by simp[Value.oneCell']) (by have h9:aj=j:=DQ.o;omega) ?_;intro p4 c4 w4 F4 CB CC CD CE;have DW:=qh CB;have DX:=qh CC;have DY:=qh CD;have DZ:=qh (Q1.trans (show Q1 (λc=>c∈Fa) w3 _ from(Q1.refl _ w3).alloc _) CE);clear CB CC CD CE)))
  have E0:=Jm.nodup p.o.free;have BF:=D (∀b∈(S'.put (a:Int) []).all,b∈S'.all) (λb n=>(Y0 n).elim (λh=>by simp at h) id);have E1:=p.o.mem.lt;have FL:=BE.o.size;go_roundw;case rel=>exact⟨j+1,S'.put a [],l2,by omega,by go_num,(show Qn _ _ _ _ _ _ _ _ by rw[BD.o];exact DV.o.other DZ (λb k=>⟨λn=>(Aq.1 n).elim (λe=>by have:=(A1.o.2.2 b k).1;have:=AU.o.1;omega) (λh=>(A1.o.2.2 b k).2 (BF.o b h)),(A1.o.2.2 b k).1⟩)),(show Je _ _ _ _ _ _ by rw[BD.o];simp only;rw[AY.o.1];exact⟨F4,DW.o,DX.o,λb k=>(DY.o b k).elim (λh=>⟨(A1.o.2.2 b h).1,λn=>(A1.o.2.2 b h).2 (BF.o b n)⟩) (λe=>⟨by rw[e];simp;omega,λn=>by have:=E1 b (Aa _ (BF.o b n));rw[e]at this;simp at this;omega⟩)⟩),(show _<=_ by have:=C7.o;simp only[Br]at this;omega),(show Qtv _ _ _ by
   rw[BD.o];simp only;rw[AY.o.1];intro z hz;rcases At0.1 hz with hz|hz
   ·obtain⟨q,h1,h2,h3⟩:=AJ.o z hz
    exact⟨q,h1,h2,λn=>h3 (Aa _ n)⟩
   simp only[List.mem_singleton]at hz;exact⟨a,hz,by have h1:=AY.o.2;have h2:(mC mj).length=(mC P):=C8.o;omega,(Ar.1 E0).1⟩),(show ¬_ from λn=>DP.o (Aa _ n))⟩
  simp[intOf];omega
 have CF:j=C:=by omega
 have E2:=qh CF;clear CF;have CG:=D (Jx m (V,d,M,f,C) (U,E,g,G,J)=if(Yy P E C).2.length=0 then((Yy P E C).1,[(J.getD 0 (0,0),((1:Int),(c:Int)))])else(Ya ((Bz (Yy P E C).2.length).foldl (Zr (V,d,M,f,C) (U,E,g,G,J) (Yy P E C).2) (Yy P E C).1) c ((Yy P E C).2.getD 0 0),[])) (by unfold Jx;have e1:=(AD.o.first Z6).1;have e2:Vx (V,d,M,f,C) (U,E,g,G,J)=ch:=DJ.o;simp only[e2,e1,aL,aW];rw[DL.o]);have CH:=D ((Yy P E C).2.length=C) (Q1x _ _ _);have E3:=qh (Qqm P E C);have E4:=qh (Qcj P E C);rw[E2.o]at p HA AJ;generalize Yy P E C.length=Fn at *
 obtain⟨mA,H⟩:=Fn;obtain⟨pa,ca,rfl⟩:=HA.o.form;have E5:H.length<=C:=Nat.le_of_eq CH;have E6:C.length<=H:=Nat.le_of_eq CH.o.symm;obtain⟨by_,oy,BG,hE⟩:=Rd.elem (A7.o _ p.o.fr).2.2 0 B6;obtain⟨g0,g1,CI,CJ⟩:=At.word (t:=J[0].1) (a:=J[0].2) hE;simp only[Ty.sz,Bj,Dm,Cw]at g0 g1;have BH:=qh (And.intro CI CJ);have HG:=D (J.getD 0 (0,0)=(J[0].1,J[0].2)) (by rw[Ab,Ad B6];rfl);obtain⟨⟨-,-,-,-,y4⟩,-,-⟩:=A7.o _ p.o.fr;rw[BG]at y4;have E7:=qh BG;clear BG;have E8:=D (J[0]=(J[0].1,J[0].2)) (rfl);generalize J[0].1=wt at *
 generalize J[0].2=wa at *
 have FM:(0:Int)<J:=by omega
 have CK:=D (Qyn (c:Int)) (by have:=DO.o;have:=BC.o;unfold Qyn;omega);clear hE CI CJ y1;by_cases FN:C.length=0
 ·have A9:H.length=0:=by omega
  have E9:((H:Int)==0)=Bn:=by simp[A9]
  have AK:=D (Jx m (V,d,M,f,C) (U,E,g,G,J)=(mA,[((wt,wa),((1:Int),(c:Int)))])) (by rw[CG.o,if_pos A9,HG.o]);obtain⟨il,FO,FP,FQ,FR⟩:=info_parts Q1d;have EA:=qh (Q29 (t:=Z7) (x:=((wt,wa),((1:Int),(c:Int)))) (Q8l BH.o.1 BH.o.2 (by unfold Qyn;omega) CK));clear A9 E5 E6;have EB:¬((j:Int)<C):=by omega
  go_wp2_with fail
  go_region_held3(λw'=>(w',yb,yo+4,A (R (by_,oy)) J D5)/\(w',by_,oy,wt)/\(w',by_,oy+1,wa))
   (first|(with_reducible first|exact Qc5 A2 y4 g0 g1|exact Qc5 (A2.o.alloc A2.o.size _) y4 g0 g1)|(refine Qc5 (w:=wr) ?_ y4 g0 g1;go_grown))
   ((go_at_call 240;refine jR (Vv (c:Int)) λw5 k=> ?_;have A2:=D (wr,w5) (Q0 (by go_grown) k);clear k))
  go_wp2
  go_ret;have EC:=p.o.mem.lt;have CL:=A2.o.size;refine⟨_,S',l',rfl, ?_, ?_⟩
  ·rw[AK.o];exact p.o.below (A2.o.alloc A2.o.size _)
  rw[AK.o];exact Yp.ofOwn (B:=w5) (Qxu.of_block (t:=Z7) (xs:=[((wt,wa),((1:Int),(c:Int)))]) (Bg w5 _) (Aj _) rfl rfl EA (by simp[Bu])) (Au p.o.fr.size CL) (λb n=>Ap (EC b (Aa _ n)) CL)
 have E9:((H:Int)==0)=Bm:=by rw[beq_eq_false_iff_ne];omega
 have AK:=D (Jx m (V,d,M,f,C) (U,E,g,G,J)=(Ya ((Bz H).foldl (Zr (V,d,M,f,C) (U,E,g,G,J) H) mA) c (H.getD 0 0),[])) (by rw[CG.o,if_neg (by simp only;omega)]);have EB:¬((j:Int)<C):=by omega
 have AA:(mX mA).length<=1000000:=by have h1:mX mA=mX P:=E3.o;rw[h1];exact DM.o
 have ED:=qh AA;have CM:(mC mA).length=(mC P):=E4.o;have AZ:=qh CM;clear AA CM y4 g0 g1;have A9:0<H.length:=by omega
 go_wp2_with fail
 clear x4;go_loopw [11] (λi K=>∃(q:Nat) (L:MS),q<=H/\i=I Z q/\Hd (Qn w S pb po K ((Bz q).foldl (Zr (V,d,M,f,C) (U,E,g,G,J) H) mA) L l')/\Hd (Je .int w L K (A pa H ca) H)) (λi _=>H.length-(intOf i).toNat);case atStart=>exact⟨0,S',Ak _,rfl,p.o,HA.o⟩
 rename World=>K
 obtain⟨q,L,hq,rfl,A5,AF⟩:=hrel;clear p HA;have B0:=D ((mC ((Bz q).foldl (Zr (V,d,M,f,C) (U,E,g,G,J) H) mA)).length=(mC mA)) (Qad _ _ _ _ _);have EE:=D (mX ((Bz q).foldl (Zr (V,d,M,f,C) (U,E,g,G,J) H) mA)=mX mA) (Qa5 _ _ _ _ _);by_cases AL:q<H
 ·have CN:=D ((Bz (q+1)).foldl (Zr (V,d,M,f,C) (U,E,g,G,J) H) mA=Zr (V,d,M,f,C) (U,E,g,G,J) H ((Bz q).foldl (Zr (V,d,M,f,C) (U,E,g,G,J) H) mA) q) (by rw[En,Dj];rfl)
  generalize (Bz q).foldl (Zr (V,d,M,f,C) (U,E,g,G,J) H) mA=mq at *
  obtain⟨s,CO,FT,CP⟩:=AJ.o H[q] (As AL);have B1:=D (H.getD q 0=(s:Int)) (by rw[Ab,Ad AL,<-CO];rfl);obtain⟨A6,AM,BI,hE⟩:=Rd.elem AF.o.rd q AL;obtain⟨z0,AB⟩:=At.int hE;rw[CO]at z0 AB;simp only[Ty.sz,Cc]at z0;subst BI;have B2:q<C:=by omega
  obtain⟨bx,ox,BJ,CQ⟩:=Rd.elem (AT.o _ A5.o.fr).2.2 q B2;have EF:=D (C.getD q (0,0)=(C[q].1,C[q].2)) (by rw[Ab,Ad B2];rfl);obtain⟨f0,f1,CR,CS⟩:=At.word (t:=C[q].1) (a:=C[q].2) CQ;simp only[Ty.sz,Bj]at f0 f1;have B3:=qh (And.intro CR CS);obtain⟨⟨-,-,-,-,x4⟩,-,-⟩:=AT.o _ A5.o.fr;rw[BJ]at x4;generalize C[q].1=xt at *
  generalize C[q].2=xa at *
  obtain⟨⟨-,-,-,-,y4⟩,-,A8⟩:=A7.o _ A5.o.fr;rw[E7.o]at y4 A8;obtain⟨FU,FV,CT,BK⟩:=Rd.elem A8 0 B6;simp only[Bt,Cq,and_true]at CT;obtain⟨rfl,rfl⟩:=CT;rw[E8.o]at BK;obtain⟨g0,g1,-,-⟩:=BK.word;simp only[Ty.sz,Bj,Dm,Cw]at g0 g1;have CA:=qh AB;have CU:=D (A6≠L.cb) (by obtain⟨Fq,oq,FW,rq⟩:=AF.o;have n:=oq.block0 rfl (by intro e;rw[e]at AL;simp at AL);exact λe=>(rq _ n).2 (Q20 e));have CV:=D (bx≠L.cb) (by rw[A5.o.cb];exact B9.o.2 bx ox BJ (by intro e;rw[e]at B2;simp at B2));clear BJ;have FX:=A5.o.fr.size;have FY:(0:Int)<=q:=by omega
  have FZ:(q:Int)<H:=by omega
  have G0:(q:Int)<C:=by omega
  clear hE CQ BK A8 AB CR CS;obtain⟨O,AA⟩:∃O:Wd,O=if q+1<H.length then((1:Int),H.getD (q+1) 0)else(wt,wa):=⟨_,rfl⟩;have CW:=qh AA;have B4:=D (Qyn O.1/\Qyn O.2) (by
   rw[AA];by_cases A3:q+1<H.length
   ·rw[if_pos A3]
    obtain⟨a1,e1,e2,_⟩:=AJ.o H[q+1] (As A3);refine⟨show Qyn 1 by unfold Qyn;omega, ?_⟩;simp only[List.getD_eq_getElem?_getD,List.getElem?_eq_getElem A3];have:=BC.o;show Qyn (H[q+1]);unfold Qyn;omega
   rw[if_neg A3];exact BH.o)
  have CX:=D (Q1r (V,d,M,f,C) (U,E,g,G,J) H q=[(xt,xa),O]) (by unfold Q1r;simp only[aW];rw[EF.o,HG.o,AA]);clear AA;by_cases A3:q+1<H.length
  ·have EG:(q:Int)+1<H.length:=by omega
   have G1:(0:Int)<=(q:Int)+1:=by omega
   have EH:=D (((q:Int)+1).toNat=q+1) (by omega);obtain⟨G2,G3,CY,hE⟩:=Rd.elem AF.o.rd (q+1) A3;simp only[Bt,Cq,and_true]at CY;obtain⟨rfl,rfl⟩:=CY;obtain⟨zz,-⟩:=At.int hE;simp only[Ty.sz,Cc]at zz;have AN:=D (O=((1:Int),H[q+1])) (by rw[CW.o,if_pos A3,Ab,Ad A3];rfl);generalize H[q+1]=zq at *
   clear hE;go_upto_region 18 with fail
   have B5:=D (Below K K (K.alloc (.cells #[wt,wa] 40))) (by go_grown);have EI:(K.alloc (.cells #[wt,wa] 40)).cell? (A6,AM+(q+1))=R (I Z zq):=jC B5 zz;have EJ:(K.alloc (.cells #[wt,wa] 40)).cell? ⟨A6,AM+((q:Int)+1).toNat,N⟩=R (I Z zq):=by rw[EH.o];exact(Am B5).cell _ _ zz
   have CZ:=qh (Bg K (.cells #[wt,wa] 40));have EK:K.heap.size<(K.alloc (.cells #[wt,wa] 40)).heap.size:=by simp
   generalize K.alloc (.cells #[wt,wa] 40)=Wb at *
   clear zz;go_wp2_with((go_at_call 240;refine jR (Vv zq) λw5 k=> ?_;have A2:=qh k;have BL:=Qf CZ k;obtain⟨⟨b0,b1⟩,bf⟩:=Zj BL;have D0:=qh BL;clear k BL))
   have BM:=D (((w5.setCell (K,0) (I Z 1)).setCell (K,1) zq).heap[K.heap.size]?=R (.cells #[O.1,O.2] 40)) (by rw[AN.o];exact Vs D0 _ _);have A0:=D (Below K K ((w5.setCell (K,0) (I Z 1)).setCell (K,1) zq)) (Qe2 (Q0 B5 A2) (Aj _));clear b0 b1 bf EJ EI D0 A2 B5 CZ EK AN;generalize (w5.setCell (K,0) (I Z 1)).setCell (K,1) zq=W at *
   have r:=qh (A5.o.below A0);have z0:=jC A0 z0;have f0:=jC A0 f0;have f1:=jC A0 f1;have x4:=jC A0 x4;have EL:=A0.o.size;obtain⟨⟨b0,b1⟩,-⟩:=Zj BM;obtain⟨pf,cf,BN,EM,EN,BO,BP,AO,AP⟩:=r.o.focusN (i:=s) (by have h1:=B0.o;have h2:=AZ.o;omega) CP;have BQ:=qh AP;have EO:=qh AO;clear BO BP AO AP;obtain⟨_,_,c0,-,-,-,-,-,-,-,-⟩:=r.o.mem.head;have AQ:=r.o.mem.cells.bound;unfold Bu at AQ;obtain⟨EP,EQ⟩:=AQ;obtain⟨BR,ER⟩:=r.o.mem.ne;have ES:=λq=>r.o.mem.cells.blk.free q;have ET:=r.o.mem.blk.lt;have BS:=r.o.mem.cells.blk.lt;have EU:L.cb<w:=by rw[r.o.cb];exact AU.o.2
   have AR:K≠L.cb:=by omega
   have BT:A6≠L.cb:=CU.o;have BU:xb≠L.cb:=by rw[r.o.cb];exact B9.o.1
   have AS:bx≠L.cb:=CV.o;have EV:(0:Int)<=s:=by omega
   have EW:(s:Int)<(mC mq):=by have h1:=B0.o;have h2:=AZ.o;omega
   have BV:=qh (Qpk (X:=λc=>c=L.cb) (((Zw W L.cb (L.o+s * 5+4) (A (R (W,0)) 2 2)).alloc (.cells #[xt,xa,O.1,O.2] 40)).drew) c0 z0 x4 f0 f1 b0 b1 BR BT BU AS AS AR AR)
   go_region_held3(λw'=>(w',pb,po,A (R (L.cb,L.o)) (mC mq) L.cap)/\(w',A6,AM+q,s)/\(w',xb,xo+4,A (R (bx,ox)) C BZ)/\(w',bx,ox+q * 2,xt)/\(w',bx,ox+q * 2+1,xa)/\(w',K.heap.size,0,O.1)/\(w',K.heap.size,1,O.2))
    (first|exact BV.o|(refine Qv5 (w:=W) ?_ c0 z0 x4 f0 f1 b0 b1;go_grown))
    (first|fail)
   go_wp2_with fail
   have AC:=BQ.o (W.alloc (.cells #[xt,xa,O.1,O.2] 40)) (R ⟨W,0,N⟩) 2 2 [(xt,xa),(O.1,O.2)] [W.heap.size] ((Q1.refl _ _).alloc _) (Qb8 (Bg W _) B3.o.1 B3.o.2 B4.o.1 B4.o.2) rfl (by simp) (λb k=> .inr (by simp at k;omega));rw[World.setCell_alloc_past _ _ _ _ BS]at AC;go_roundw;case rel=>exact⟨q+1,L.put (s:Int) (BN++ [W.heap.size]),by omega,by go_num,(show Qn _ _ _ _ _ _ _ _ by rw[CN.o];unfold Zr;rw[B1.o,CX.o];exact AC.1.drew),(show Je _ _ _ _ _ _ from(AF.o.step (X:=λ_=>False) (Ay A0) (λ_ h=>h.elim) (λb h=> .inl h)).step (((Zw W L.cb (L.o+s * 5+4) (A (R (W,0)) 2 2)).alloc (.cells #[xt,xa,O.1,O.2] 40)).drew) (λc hc=> .inr (Q20 hc)) AC.2.1.2.2.2)⟩
   simp[intOf];omega
  have EG:¬((q:Int)+1<H.length):=by omega
  have AN:=D (O=(wt,wa)) (by rw[CW.o,if_neg A3]);go_wp2_with fail
  have BM:=D ((K.alloc (.cells #[wt,wa] 40)).heap[K.heap.size]?=R (.cells #[O.1,O.2] 40)) (by rw[AN.o];exact Bg K _);have A0:=D (Below K K (K.alloc (.cells #[wt,wa] 40))) (by go_grown);clear AN;generalize K.alloc (.cells #[wt,wa] 40)=W at *
  have r:=qh (A5.o.below A0);have z0:=jC A0 z0;have f0:=jC A0 f0;have f1:=jC A0 f1;have x4:=jC A0 x4;have EL:=A0.o.size;obtain⟨⟨b0,b1⟩,-⟩:=Zj BM;obtain⟨pf,cf,BN,EM,EN,BO,BP,AO,AP⟩:=r.o.focusN (i:=s) (by have h1:=B0.o;have h2:=AZ.o;omega) CP;have BQ:=qh AP;have EO:=qh AO;clear BO BP AO AP;obtain⟨_,_,c0,-,-,-,-,-,-,-,-⟩:=r.o.mem.head;have AQ:=r.o.mem.cells.bound;unfold Bu at AQ;obtain⟨EP,EQ⟩:=AQ;obtain⟨BR,ER⟩:=r.o.mem.ne;have ES:=λq=>r.o.mem.cells.blk.free q;have ET:=r.o.mem.blk.lt;have BS:=r.o.mem.cells.blk.lt;have EU:L.cb<w:=by rw[r.o.cb];exact AU.o.2
  have AR:K≠L.cb:=by omega
  have BT:A6≠L.cb:=CU.o;have BU:xb≠L.cb:=by rw[r.o.cb];exact B9.o.1
  have AS:bx≠L.cb:=CV.o;have EV:(0:Int)<=s:=by omega
  have EW:(s:Int)<(mC mq):=by have h1:=B0.o;have h2:=AZ.o;omega
  have BV:=qh (Qpk (X:=λc=>c=L.cb) (((Zw W L.cb (L.o+s * 5+4) (A (R (W,0)) 2 2)).alloc (.cells #[xt,xa,O.1,O.2] 40)).drew) c0 z0 x4 f0 f1 b0 b1 BR BT BU AS AS AR AR)
  go_region_held3(λw'=>(w',pb,po,A (R (L.cb,L.o)) (mC mq) L.cap)/\(w',A6,AM+q,s)/\(w',xb,xo+4,A (R (bx,ox)) C BZ)/\(w',bx,ox+q * 2,xt)/\(w',bx,ox+q * 2+1,xa)/\(w',K.heap.size,0,O.1)/\(w',K.heap.size,1,O.2))
   (first|exact BV.o|(refine Qv5 (w:=W) ?_ c0 z0 x4 f0 f1 b0 b1;go_grown))
   (first|fail)
  go_wp2_with fail
  have AC:=BQ.o (W.alloc (.cells #[xt,xa,O.1,O.2] 40)) (R ⟨W,0,N⟩) 2 2 [(xt,xa),(O.1,O.2)] [W.heap.size] ((Q1.refl _ _).alloc _) (Qb8 (Bg W _) B3.o.1 B3.o.2 B4.o.1 B4.o.2) rfl (by simp) (λb k=> .inr (by simp at k;omega));rw[World.setCell_alloc_past _ _ _ _ BS]at AC;go_roundw;case rel=>exact⟨q+1,L.put (s:Int) (BN++ [W.heap.size]),by omega,by go_num,(show Qn _ _ _ _ _ _ _ _ by rw[CN.o];unfold Zr;rw[B1.o,CX.o];exact AC.1.drew),(show Je _ _ _ _ _ _ from(AF.o.step (X:=λ_=>False) (Ay A0) (λ_ h=>h.elim) (λb h=> .inl h)).step (((Zw W L.cb (L.o+s * 5+4) (A (R (W,0)) 2 2)).alloc (.cells #[xt,xa,O.1,O.2] 40)).drew) (λc hc=> .inr (Q20 hc)) AC.2.1.2.2.2)⟩
  simp[intOf];omega
 have D1:q=H:=by omega
 have EX:=qh D1;clear D1;obtain⟨a0,D2,G4,-⟩:=AJ.o H[0] (As A9);obtain⟨A6,AM,BI,hE⟩:=Rd.elem AF.o.rd 0 A9;obtain⟨z0,AB⟩:=At.int hE;rw[D2]at z0 AB;simp only[Ty.sz,Cc,Cw]at z0;have B1:=D (H.getD 0 0=(a0:Int)) (by rw[Ab,Ad A9,<-D2];rfl);subst BI;have EY:=qh AB;have G5:(0:Int)<H:=by omega
 clear hE AB;go_wp2_with((go_at_call 241;refine(Qfz A5 (c:Int) (a0:Int) CK EY (by rw[EE.o];exact ED.o)).mono ?_;rintro e w9 ⟨rfl,S9,hs,EZ,hf⟩;have BW:=qh hs;clear hs EZ hf))
 go_ret;refine⟨_,S9,l',rfl, ?_, ?_⟩
 ·rw[AK.o]
  show Qn _ _ _ _ _ (Ya _ _ _) _ _;rw[B1.o,<-EX.o];exact BW.o.below (by go_grown)
 rw[AK.o];exact Yp.ofOwn (Q0d (t:=Z7) (T:=146) w9 w9 rfl rfl) BW.o.fr.size (λb n=>BW.o.mem.lt b (Aa _ n))
theorem Qjq{m i ws}:(mC (Qa m i ws)).length=(mC m):=Q01 _ _
theorem Q5e(m i a b):Qa (Qa m i a) i b=Qa m i b:=by
 unfold Qa Qg1;simp only[mC,mF,mR,mX];grind[Q7,aK,aL,aV,aD,Z2,He]
theorem Q5q(m)(i:Int)(ws)(h:i.toNat<(mC m)):aW (Q7 (mC (Qa m i ws)) i)=ws:=by
 unfold Qa;rw[Q39,if_pos ⟨rfl,h⟩];rfl
theorem Q72(m i j ws)(h:i.toNat≠j.toNat):Q7 (mC (Qa m i ws)) j=Q7 (mC m) j:=by
 grind[Qa,Q39]
theorem Q7v{m}(i j){a b}(h:i.toNat≠j.toNat):Qa (Qa m i a) j b=Qa (Qa m j b) i a:=by
 grind[Q72,Qa,Qg1,mC,mF,mR,mX,Ig]
theorem Q3y{m}(i){ws y}(h:i.toNat≠(mF m).toNat):Qi (Qa m i ws) y=Qa (Qi m y) i ws:=by
 have B:Q7 (mC (Qi m y)) i=Q7 (mC m) i:=by rw[Yr,if_neg (λe=>h e.1.symm)]
 grind[mC,Qa,mF,Q72,Qi,Qg1,mR,mX,Ig]
theorem Qfa{m k l v d a b}:Qa (Qi m (k,l,v,d,a)) (mF m) b=Qi m (k,l,v,d,b):=by
 by_cases h:(mF m).toNat<(mC m)
 ·unfold Qa
  rw[Yr,if_pos ⟨rfl,h⟩];unfold Qi Qg1;simp only[mC,mF,mR,mX,He];rfl
 grind[mC,mF,If,Qa,Qi,Qg1,mR,mX]
theorem Qxa(m i ws):mF (Qa m i ws)=mF m:=rfl
def Q09(ws:List Wd)(lx c d:Int)(s:Qyb×List Qy3)(i:Nat):Qyb×List Qy3:=
 let f:=mF s.1
 let m1:=Qi s.1 (4,lx,0,[],[(0,0),(0,0)])
 let u:=mF m1
 let m2:=Qw m1
 let v:=mF m2
 let m3:=Qw m2
 (Qm (Qm (Qa m3 f [(2,u),(2,v)]) c i (2,u)) d i (2,v),s.2++ [(ws.getD i (0,0),((1:Int),f))])
def Jz(n:Nat):List Wd:=List.replicate n (0,0)
def Qtz(m:Qyb)(x y:Qb):Qyb×List Qy3:=
 let c:=mF m
 let m1:=Qi m (aK y,aL y,aV y,aD y,Jz (aW y))
 let d:=mF m1
 let m2:=Qi m1 (aK y,aL y,aV y,aD y,Jz (aW y))
 (Bz (aW y)).foldl (Q09 (aW y) (aL x) c d) (m2,[((aW x).getD 0 (0,0),((1:Int),c)),((aW x).getD 1 (0,0),((1:Int),d))])
def Qdd(k:Nat)(c d:Int)(m:Qyb):Qyb:=Qa (Qa m c (aW (Q7 (mC m) c)++Jz k)) d (aW (Q7 (mC m) d)++Jz k)
theorem Qrf(a k u):(a++Jz (k+1)).set a u=(a++ [u])++Jz k:=by
 unfold Jz;grind
structure Qkz (n j:Nat) (c d:Int) (m:Qyb) (l:List Nat):Prop where
 free:Yq m l
 len:3 * (n-j)<=l.length
 cd:c.toNat≠d.toNat
 cl:c.toNat<(mC m).length
 dl:d.toNat<(mC m).length
 cn:c.toNat∉l
 dn:d.toNat∉l
 cw:(aW (Q7 (mC m) c)).length=j
 dw:(aW (Q7 (mC m) d)).length=j
theorem Qol{n j c d m l}(h:Qkz n j c d m l)(hj:j<n){ws B o E}(hw:ws.getD j (0,0)=E):
  Q09 ws B c d (Qdd (n-j) c d m,o) j=(Qdd (n-(j+1)) c d (Zq B c d (m,o) E).1,(Zq B c d (m,o) E).2)/\∃l',Qkz n (j+1) c d (Zq B c d (m,o) E).1 l':=by
 obtain⟨k,A0,C,A6,A7,F,G,p,q⟩:=h;obtain⟨H,J,O,l',rfl⟩:∃H J O l',l=H::J::O::l':=by
  match l,(show 3<=l.length by omega)with
  |H::J::O::l',_=>exact⟨H,J,O,l',rfl⟩
 have P:=Jm.nodup k;simp only[List.mem_cons,not_or,List.nodup_cons]at F G P;obtain⟨f1,L,b1⟩:=k.take (4,B,0,[],[]);obtain⟨r,X,b2⟩:=f1.take Z6;obtain⟨s,Y,b3⟩:=r.take Z6;have t:n-j=(n-(j+1))+1:=by omega
 have S:c.toNat≠(mF m).toNat:=by rw[L];simp;exact F.1
 have T:d.toNat≠(mF m).toNat:=by rw[L];simp;exact G.1
 have w:c.toNat≠(mF (Qi m (4,B,0,[],[]))).toNat:=by rw[X];simp;exact F.2.1
 have x:d.toNat≠(mF (Qi m (4,B,0,[],[]))).toNat:=by rw[X];simp;exact G.2.1
 have y:c.toNat≠(mF (Qi (Qi m (4,B,0,[],[])) Z6)).toNat:=by rw[Y];simp;exact F.2.2.1
 have z:d.toNat≠(mF (Qi (Qi m (4,B,0,[],[])) Z6)).toNat:=by rw[Y];simp;exact G.2.2.1
 have A1:(mF m).toNat≠(mF (Qi m (4,B,0,[],[]))).toNat:=by rw[L,X];simp;exact P.1.1
 have A2:(mF m).toNat≠(mF (Qi (Qi m (4,B,0,[],[])) Z6)).toNat:=by rw[L,Y];simp;exact P.1.2.1
 have hA:∀U,mF U=mF m->Qi U (4,B,0,[],[(0,0),(0,0)])=Qa (Qi U (4,B,0,[],[])) (mF m) [(0,0),(0,0)]:=λU e=>by rw[<-e,Qfa]
 have a:Qi (Qdd (n-j) c d m) (4,B,0,[],[(0,0),(0,0)])=Qa (Qa (Qa (Qi m (4,B,0,[],[])) c (aW (Q7 (mC m) c)++Jz (n-j))) d (aW (Q7 (mC m) d)++Jz (n-j))) (mF m) [(0,0),(0,0)]:=by rw[hA (Qdd (n-j) c d m) rfl];unfold Qdd;rw[Q3y d (by exact T),Q3y c S]
 have b:Qw (Qi (Qdd (n-j) c d m) (4,B,0,[],[(0,0),(0,0)]))=Qa (Qa (Qa (Qw (Qi m (4,B,0,[],[]))) c (aW (Q7 (mC m) c)++Jz (n-j))) d (aW (Q7 (mC m) d)++Jz (n-j))) (mF m) [(0,0),(0,0)]:=by rw[a];unfold Qw;rw[Q3y (mF m) (by exact A1),Q3y d (by exact x),Q3y c w]
 have t3:Qw (Qw (Qi (Qdd (n-j) c d m) (4,B,0,[],[(0,0),(0,0)])))=Qa (Qa (Qa (Qw (Qw (Qi m (4,B,0,[],[])))) c (aW (Q7 (mC m) c)++Jz (n-j))) d (aW (Q7 (mC m) d)++Jz (n-j))) (mF m) [(0,0),(0,0)]:=by rw[b];unfold Qw;rw[Q3y (mF m) (by exact A2),Q3y d (by exact z),Q3y c y]
 have A3:(mC (Qw (Qw (Qi m (4,B,0,[],[]))))).length=(mC m):=by unfold Qw;rw[Qg,Qg,Qg]
 have g:∀i:Int,i.toNat≠(mF m).toNat->i.toNat≠(mF (Qi m (4,B,0,[],[]))).toNat->i.toNat≠(mF (Qi (Qi m (4,B,0,[],[])) Z6)).toNat->Q7 (mC (Qw (Qw (Qi m (4,B,0,[],[]))))) i=Q7 (mC m) i:=λi h1 h2 h3=>by unfold Qw;rw[Yr,if_neg (λe=>h3 e.1.symm),Yr,if_neg (λe=>h2 e.1.symm),Yr,if_neg (λe=>h1 e.1.symm)]
 have gc:=g c S w y;have gd:=g d T x z
 have t4:Qa (Qw (Qw (Qi (Qdd (n-j) c d m) (4,B,0,[],[(0,0),(0,0)])))) (mF m) [(2,mF (Qi m (4,B,0,[],[]))),(2,mF (Qw (Qi m (4,B,0,[],[]))))]=
   Qa (Qa (Qa (Qw (Qw (Qi m (4,B,0,[],[])))) (mF m) [(2,mF (Qi m (4,B,0,[],[]))),(2,mF (Qw (Qi m (4,B,0,[],[]))))]) c (aW (Q7 (mC m) c)++Jz (n-j))) d (aW (Q7 (mC m) d)++Jz (n-j)):=by
  rw[t3,Q5e,Q7v d (mF m) T,Q7v c (mF m) S]
 have u1:mF (Qi (Qdd (n-j) c d m) (4,B,0,[],[(0,0),(0,0)]))=mF (Qi m (4,B,0,[],[])):=by rw[a];rfl
 have u2:mF (Qw (Qi (Qdd (n-j) c d m) (4,B,0,[],[(0,0),(0,0)])))=mF (Qw (Qi m (4,B,0,[],[]))):=by rw[b];rfl
 have hS:Zq B c d (m,o) E=(J4 (J4 (Qa (Qw (Qw (Qi m (4,B,0,[],[])))) (mF m) [(2,mF (Qi m (4,B,0,[],[]))),(2,mF (Qw (Qi m (4,B,0,[],[]))))]) c (2,mF (Qi m (4,B,0,[],[])))) d (2,mF (Qw (Qi m (4,B,0,[],[])))),o++ [(E,((1:Int),mF m))]):=rfl;have hI:Q09 ws B c d (Qdd (n-j) c d m,o) j=(Qm (Qm (Qa (Qw (Qw (Qi (Qdd (n-j) c d m) (4,B,0,[],[(0,0),(0,0)])))) (mF m) [(2,mF (Qi (Qdd (n-j) c d m) (4,B,0,[],[(0,0),(0,0)]))),(2,mF (Qw (Qi (Qdd (n-j) c d m) (4,B,0,[],[(0,0),(0,0)]))))]) c j (2,mF (Qi (Qdd (n-j) c d m) (4,B,0,[],[(0,0),(0,0)])))) d j (2,mF (Qw (Qi (Qdd (n-j) c d m) (4,B,0,[],[(0,0),(0,0)])))),o++ [(ws.getD j (0,0),((1:Int),mF m))]):=rfl;rw[hI,hS,u1,u2,t4,hw];have A4:Yq (Qw (Qw (Qi m (4,B,0,[],[])))) l':=s;clear hI hS u1 u2 a b t3 t4 hA g f1 r s;generalize mF (Qw (Qi m (4,B,0,[],[])))=v at *
 generalize mF (Qi m (4,B,0,[],[]))=u at *
 generalize Qw (Qw (Qi m (4,B,0,[],[])))=M at *
 generalize hf0:mF m=f at *
 have kc:Q7 (mC (Qa M f [(2,u),(2,v)])) c=Q7 (mC m) c:=by rw[Q72 _ _ _ _ (Hv S),gc]
 have kd:Q7 (mC (Qa M f [(2,u),(2,v)])) d=Q7 (mC m) d:=by rw[Q72 _ _ _ _ (Hv T),gd]
 have kl:(mC (Qa M f [(2,u),(2,v)])).length=(mC m):=by rw[Qjq,A3]
 have A5:f.toNat∉l':=by rw[L];simp;exact P.1.2.2
 have kf:Yq (Qa M f [(2,u),(2,v)]) l':=A4.put _ A5;generalize Qa M f [(2,u),(2,v)]=K at *
 have V:c.toNat<(mC K):=by omega
 have W:d.toNat<(mC K):=by omega
 refine⟨?_,l', ?_⟩
 ·simp only[Prod.mk.injEq,and_true]
  have H:Qm (Qa (Qa K c (aW (Q7 (mC m) c)++Jz (n-j))) d (aW (Q7 (mC m) d)++Jz (n-j))) c j (2,u)=Qa (Qa K c ((aW (Q7 (mC m) c)++ [(2,u)])++Jz (n-(j+1)))) d (aW (Q7 (mC m) d)++Jz (n-j)):=by unfold Qm;rw[Q72 _ d c _ (Hv C),Q5q _ _ _ V,Q7v d c (Hv C),Q5e];rw[show((j:Nat):Int).toNat=(aW (Q7 (mC m) c)) by rw[p];simp,t,Qrf]
  rw[H];have J:Qm (Qa (Qa K c ((aW (Q7 (mC m) c)++ [(2,u)])++Jz (n-(j+1)))) d (aW (Q7 (mC m) d)++Jz (n-j))) d j (2,v)=Qa (Qa K c ((aW (Q7 (mC m) c)++ [(2,u)])++Jz (n-(j+1)))) d ((aW (Q7 (mC m) d)++ [(2,v)])++Jz (n-(j+1))):=by unfold Qm;rw[Q5q _ _ _ (by rw[Qjq];exact W),Q5e];rw[show((j:Nat):Int).toNat=(aW (Q7 (mC m) d)) by rw[q];simp,t,Qrf]
  rw[J];unfold Qdd J4;rw[Q5q _ d _ (by rw[Qjq];exact W),Q72 _ d c _ (Hv C),Q5q _ c _ V,Q72 _ c d _ C,kc,kd];rw[Q7v d c (Hv C),Q5e,Q5e]
 unfold J4;refine⟨(kf.put _ F.2.2.2).put _ G.2.2.2,by simp only[Br]at A0;omega,C,by rw[Qjq,Qjq];exact V,by rw[Qjq,Qjq];exact W,F.2.2.2,G.2.2.2, ?_, ?_⟩
 ·rw[Q72 _ d c _ (Hv C),Q5q _ c _ V,kc,Bo,p];rfl
 rw[Q5q _ d _ (by rw[Qjq];exact W),Q72 _ c d _ C,kd,Bo,q];rfl
theorem Quo{m l}(h:Yq m l){x y}(T:2+3 * (aW y).length<=l.length):Qtz m x y=Qa4 m x y:=by
 obtain⟨C,E,l',rfl⟩:∃C E l',l=C::E::l':=by
  match l,(show 2<=l.length by omega)with
  |C::E::l',_=>exact⟨C,E,l',rfl⟩
 have F:=Jm.nodup h;simp only[List.mem_cons,not_or,List.nodup_cons]at F;obtain⟨f1,G,L⟩:=h.take (aK y,aL y,aV y,aD y,[]);obtain⟨U,H,O⟩:=f1.take (aK y,aL y,aV y,aD y,[]);have V:Qi m (aK y,aL y,aV y,aD y,Jz (aW y).length)=Qa (Qi m (aK y,aL y,aV y,aD y,[])) (mF m) (Jz (aW y).length):=(Qfa).symm;have W:mF (Qi m (aK y,aL y,aV y,aD y,Jz (aW y).length))=mF (Qi m (aK y,aL y,aV y,aD y,[])):=rfl;have J:(mF m).toNat≠(mF (Qi m (aK y,aL y,aV y,aD y,[]))).toNat:=by rw[G,H];simp;exact F.1.1
 have w1:Q7 (mC (Qi (Qi m (aK y,aL y,aV y,aD y,[])) (aK y,aL y,aV y,aD y,[]))) (mF m)=(aK y,aL y,aV y,aD y,[]):=by rw[Yr,if_neg (λe=>J e.1.symm),Yr,if_pos ⟨rfl,by rw[G];simpa using L⟩]
 have w2:Q7 (mC (Qi (Qi m (aK y,aL y,aV y,aD y,[])) (aK y,aL y,aV y,aD y,[]))) (mF (Qi m (aK y,aL y,aV y,aD y,[])))=(aK y,aL y,aV y,aD y,[]):=by rw[Yr,if_pos ⟨rfl,by rw[H];simpa using O⟩]
 have X:Qi (Qi m (aK y,aL y,aV y,aD y,Jz (aW y).length)) (aK y,aL y,aV y,aD y,Jz (aW y).length)=Qdd (aW y).length (mF m) (mF (Qi m (aK y,aL y,aV y,aD y,[]))) (Qi (Qi m (aK y,aL y,aV y,aD y,[])) (aK y,aL y,aV y,aD y,[])):=by unfold Qdd;rw[w1,w2];show _=Qa (Qa _ _ (Jz _)) _ (Jz _);rw[Q7v _ _ J,Qfa,V,Q3y _ (by exact J)]
 unfold Qtz Qa4;simp only[];rw[W,X];have Y:Qkz (aW y).length 0 (mF m) (mF (Qi m (aK y,aL y,aV y,aD y,[]))) (Qi (Qi m (aK y,aL y,aV y,aD y,[])) (aK y,aL y,aV y,aD y,[])) l':=by refine⟨U,by simp only[Br]at T;omega,J,by rw[Qg,Qg,G];simpa using L,by rw[Qg,H];simpa using O,by rw[G];simp;exact F.1.2,by rw[H];simp;exact F.2.1,by rw[w1];rfl,by rw[w2];rfl⟩
 generalize Qi (Qi m (aK y,aL y,aV y,aD y,[])) (aK y,aL y,aV y,aD y,[])=M at *
 generalize mF (Qi m (aK y,aL y,aV y,aD y,[]))=d at *
 generalize mF m=c at *
 generalize [((aW x).getD 0 (0,0),((1:Int),c)),((aW x).getD 1 (0,0),((1:Int),d))]=o;have a:∀j,j<=(aW y).length->(Bz j).foldl (Q09 (aW y) (aL x) c d) (Qdd (aW y).length c d M,o)=(Qdd ((aW y).length-j) c d (((aW y).take j).foldl (Zq (aL x) c d) (M,o)).1,(((aW y).take j).foldl (Zq (aL x) c d) (M,o)).2)/\∃l',Qkz (aW y).length j c d (((aW y).take j).foldl (Zq (aL x) c d) (M,o)).1 l':=by
  intro j;induction j with
  |zero=>intro _;exact⟨rfl,_,Y⟩
  |succ j ih=>intro n;obtain⟨b,f,g⟩:=ih (by omega);rw[En,Dj,b,An (by omega),Dj];exact Qol g (by omega) (by rw[Ab,Ad (by omega)];rfl)
 obtain⟨k,f,K⟩:=a _ (Aj _);rw[k,Ao (Aj _),Nat.sub_self];rw[Ao (Aj _)]at K;generalize (aW y).foldl (Zq (aL x) c d) (M,o)=B at *
 have P:∀i,i.toNat<(mC B.1).length->Qa B.1 i (aW (Q7 (mC B.1) i))=B.1:=λi S=>by
  unfold Qa Qg1;show((mC B.1).set i.toNat (Q7 (mC B.1) i),mF B.1,mR B.1,mX B.1)=B.1;have:(mC B.1).set i.toNat (Q7 (mC B.1) i)=mC B.1:=by unfold Q7 Q9;rw[Ab,Ad S];exact List.set_getElem_self S
  rw[this];rfl
 show(Qa (Qa B.1 c (_++ [])) d (_++ []),B.2)=B;rw[Cl,Cl,P c K.cl,P d K.dl]
def Q1q(m:Qyb)(l:Int)(xs:List Wd)(y0:Wd):Nat->Qyb×List Int
 |0=>(m,[])
 |n+1=>(Qi (Q1q m l xs y0 n).1 (3,l,0,[],[xs.getD n (0,0),y0]),(Q1q m l xs y0 n).2++ [mF (Q1q m l xs y0 n).1])
def Q67(apps:List Int)(m:Qyb)(i:Nat):Qyb:=Qm m (apps.getD i 0) 1 (1,apps.getD (i+1) 0)
def Q4j(m:Qyb)(x y:Qb):Qyb×List Qy3:=
 let c:=mF m
 let m1:=Qi m (12,aL y,Vx x y,[],[])
 if(aW x).length=0 then(m1,[((aW y).getD 0 (0,0),((1:Int),c))])
 else
  let s:=Q1q m1 (aL y) (aW x) ((aW y).getD 0 (0,0)) (aW x)
  (Ya ((Bz ((aW x).length-1)).foldl (Q67 s.2) s.1) c (s.2.getD 0 0),[])
def Q2d(ap:List Int)(g:Nat->List Wd)(m:Qyb)(n:Nat):Qyb:=(Bz n).foldl (λm i=>Qa m (ap.getD i 0) (g i)) m
theorem Q02(B g m n):Q2d B g m (n+1)=Qa (Q2d B g m n) (B.getD n 0) (g n):=by
 unfold Q2d;rw[En,Dj];rfl
theorem Qku(B:List Int)(g:Nat->List Wd)(m:Qyb):∀n,(mC (Q2d B g m n)).length=(mC m)
 |0=>rfl
 |n+1=>by rw[Q02,Qjq,Qku B g m n]
theorem Qaz(B:List Int)(g:Nat->List Wd)(m:Qyb):∀n,mF (Q2d B g m n)=mF m
 |0=>rfl
 |n+1=>by rw[Q02,Qxa,Qaz B g m n]
theorem Q1v(B C:List Int)(g E:Nat->List Wd)(m:Qyb):∀n,(∀i,i<n->B.getD i 0=C.getD i 0/\g i=E i)->Q2d B g m n=Q2d C E m n
 |0,_=>rfl
 |n+1,h=>by rw[Q02,Q02,Q1v B C g E m n (λi F=>h i (by omega)),(h n (by omega)).1,(h n (by omega)).2]
theorem Qbe(B:List Int)(g:Nat->List Wd)(m:Qyb)(y:Qb):∀n,(∀i,i<n->(B.getD i 0).toNat≠(mF m).toNat)->Qi (Q2d B g m n) y=Q2d B g (Qi m y) n
 |0,_=>rfl
 |n+1,h=>by rw[Q02,Q02,Q3y _ (by rw[Qaz];exact h n (by omega)),Qbe B g m y n (λi C=>h i (by omega))]
theorem Qen(B:List Int)(g:Nat->List Wd)(m:Qyb)(v:List Wd):∀n k,k<n->(∀i j,i<n->j<n->i≠j->(B.getD i 0).toNat≠(B.getD j 0).toNat)->Qa (Q2d B g m n) (B.getD k 0) v=Q2d B (λi=>if i=k then v else g i) m n
 |0,_,h,_=>absurd h (Dh _)
 |n+1,k,hk,hd=>by
  rw[Q02,Q02];by_cases e:k=n
  ·subst e
   rw[Q5e];simp only[if_true];rw[Q1v B B g (λi=>if i=k then v else g i) m k (λi C=>⟨rfl,by rw[if_neg (by omega)]⟩)]
  rw[Q7v _ _ (hd n k (by omega) hk (by omega)),Qen B g m v n k (by omega) (λi j C E=>hd i j (by omega) (by omega))];rw[if_neg (by omega:¬n=k)]
theorem Qe3(B:List Int)(g:Nat->List Wd)(m:Qyb):∀n k,k<n->(∀i j,i<n->j<n->i≠j->(B.getD i 0).toNat≠(B.getD j 0).toNat)->(∀i,i<n->(B.getD i 0).toNat<(mC m))->aW (Q7 (mC (Q2d B g m n)) (B.getD k 0))=g k
 |0,_,h,_,_=>absurd h (Dh _)
 |n+1,k,hk,hd,hb=>by
  rw[Q02];by_cases e:k=n
  ·subst e;exact Q5q _ _ _ (by rw[Qku];exact hb _ hk)
  rw[Q72 _ _ _ _ (hd n k (by omega) hk (by omega))];exact Qe3 B g m n k (by omega) (λi j C E=>hd i j (by omega) (by omega)) (λi C=>hb i (by omega))
def Q8m{m:Qyb}{l:List Nat}(h:Yq m l)(lv:Int):∀n,n<=l.length->Yq (Yy m lv n).1 (l.drop n)/\(∀i,i<n->(Yy m lv n).2.getD i 0=((l.getD i 0:Nat):Int)/\l.getD i 0<(mC m).length)
 |0,_=>⟨h,λi B=>absurd B (Dh _)⟩
 |n+1,hn=>by
  obtain⟨C,G⟩:=Q8m h lv n (by omega);have E:l.drop n=l.getD n 0::l.drop (n+1):=by rw[Dq (by omega),Ab,Ad (by omega)];rfl
  rw[E]at C;obtain⟨f1,H,F⟩:=C.take (3,lv,0,[],[]);rw[Qcj]at F;have J:=Q1x m lv n;refine⟨f1,λi B=> ?_⟩;show((Yy m lv n).2++ [mF (Yy m lv n).1]).getD i 0=_/\_;grind
def Q4x{l:List Nat}(h:l.Nodup){i j:Nat}(B:i<l)(C:j<l)(E:i≠j):l.getD i 0≠l.getD j 0:=by
 grind[List.getElem_inj]
theorem Qlq{m:Qyb}{l:List Nat}(h:Yq m l)(lv:Int)(xs:List Wd)(B:Wd):∀n,n<=l.length->Q1q m lv xs B n=(Q2d (Yy m lv n).2 (λi=> [xs.getD i (0,0),B]) (Yy m lv n).1 n,(Yy m lv n).2)
 |0,_=>rfl
 |n+1,hn=>by
  obtain⟨E,F⟩:=Q8m h lv n (by omega);obtain⟨M,O⟩:=Q8m h lv (n+1) hn;have G:=Jm.nodup h;have H:mF (Yy m lv n).1=((l.getD n 0:Nat):Int):=by
   have J:l.drop n=l.getD n 0::l.drop (n+1):=by rw[Dq (by omega),Ab,Ad (by omega)];rfl
   rw[J]at E;exact(E.take Z6).2.1
  have P:=Q1x m lv n;have K:∀i,i<n->((Yy m lv n).2++ [mF (Yy m lv n).1]).getD i 0=(Yy m lv n).2.getD i 0:=λi C=>by grind
  have L:((Yy m lv n).2++ [mF (Yy m lv n).1]).getD n 0=mF (Yy m lv n).1:=by grind
  show(Qi (Q1q m lv xs B n).1 (3,lv,0,[],[xs.getD n (0,0),B]),(Q1q m lv xs B n).2++ [mF (Q1q m lv xs B n).1])=(Q2d ((Yy m lv n).2++ [mF (Yy m lv n).1]) (λi=> [xs.getD i (0,0),B]) (Qi (Yy m lv n).1 (3,lv,0,[],[])) (n+1),(Yy m lv n).2++ [mF (Yy m lv n).1]);rw[Qlq h lv xs B n (by omega)];simp only[Qaz,Prod.mk.injEq,and_true];rw[Q02,L,Q1v _ (Yy m lv n).2 _ (λi=> [xs.getD i (0,0),B]) _ n (λi C=>⟨K i C,rfl⟩)];rw[<-Qbe _ _ _ _ n (λi C=>by rw[(F i C).1,H,Bq,Bq];exact Q4x G (by omega) (by omega) (by omega))];grind[Qfa,Qaz]
theorem Qky(B:List Int)(g:Nat->List Wd)(m:Qyb)(n:Nat)(C:∀i j,i<n->j<n->i≠j->(B.getD i 0).toNat≠(B.getD j 0).toNat)(E:∀i,i<n->(B.getD i 0).toNat<(mC m)):∀k,k<=n->(Bz k).foldl (Q67 B) (Q2d B g m n)=Q2d B (λi=>if i<k then(g i).set 1 (1,B.getD (i+1) 0)else g i) m n
 |0,_=>Q1v _ _ _ _ _ _ λi G=>⟨rfl,by simp⟩
 |k+1,hk=>by
  rw[En,Dj,Qky B g m n C E k (by omega)];show Q67 B _ k=_;unfold Q67 Qm;rw[Qe3 B _ m n k (by omega) C E,Qen B _ m _ n k (by omega) C];refine Q1v _ _ _ _ _ _ λi G=>⟨rfl, ?_⟩;by_cases e:i=k
  ·subst e
   rw[if_pos rfl,if_neg (by omega),if_pos (by omega)];rfl
  rw[if_neg e];by_cases F:i<k
  ·rw[if_pos F,if_pos (by omega)]
  rw[if_neg F,if_neg (by omega)]
theorem Qnl{m l}(h:Yq m l){x y}(G:(aW x).length+1<=l.length):Q4j m x y=Jx m x y:=by
 obtain⟨e,l',rfl⟩:∃e l',l=e::l':=by
  match l,(show 0<l.length by omega)with
  |e::l',_=>exact⟨e,l',rfl⟩
 have M:=Jm.nodup h;obtain⟨f1,O,P⟩:=h.take (12,aL y,Vx x y,[],[]);have F:(aW x).length<=l'.length:=by simp only[Br]at G;omega
 unfold Q4j Jx;simp only[];have H:=Q1x (Qi m (12,aL y,Vx x y,[],[])) (aL y) (aW x);rw[H];by_cases B:(aW x).length=0
 ·rw[if_pos B,if_pos B,B];rfl
 rw[if_neg B,if_neg B,Qlq f1 _ _ _ _ F];simp only[];obtain⟨q1,E⟩:=Q8m f1 (aL y) _ F;have J:=Jm.nodup f1;rw[Qky _ _ _ _ (λi j C K L=>by rw[(E i C).1,(E j K).1,Bq,Bq];exact Q4x J (by omega) (by omega) L) (λi C=>by rw[(E i C).1,Bq,Qcj];exact(E i C).2) _ (Nat.sub_le _ _)];congr 2
 show Q2d _ _ _ _=Q2d _ (Q1r x y _) _ _;refine Q1v _ _ _ _ _ _ λi C=>⟨rfl, ?_⟩;grind[Q1r]
def J8(n:Qy0)(l:Int):Qy0:=n.map λx=>(aK x,(if Zf (aK x)then aL x+l else aL x),aV x,aD x,aW x)
theorem J3(n l):(J8 n l).length=n:=by simp[J8]
theorem Q6x(n l i):Q9 (J8 n l) i=(aK (Q9 n i),(if Zf (aK (Q9 n i))then aL (Q9 n i)+l else aL (Q9 n i)),aV (Q9 n i),aD (Q9 n i),aW (Q9 n i)):=by
 unfold Q9 J8;rw[Ab,List.getElem?_map,Ab];cases n[i]?<;>rfl
theorem Q8t(n l i):aW (Q9 (J8 n l) i)=aW (Q9 n i):=by rw[Q6x];rfl
theorem Q3o(n l p):Qe (J8 n l) p=Qe n p:=by unfold Qe Q7;rw[Q8t]
theorem Q4d(n l):Qk (J8 n l)=Qk n:=by
 unfold Qk Q0k;rw[J3];simp only[Q8t]
theorem Qhm(n l):Yw (J8 n l)=Yw n:=by
 grind[Yw,Q4d,Q3o]
theorem Qhw(n l):Zg (J8 n l)=Zg n:=by unfold Zg;rw[Qhm]
theorem Qgw(n l):Y5 (J8 n l)=Y5 n:=by
 grind[Y5,J3,Q3o]
def Qmy(x:Qb):Qb:=(aK x,aL x,aV x,aD x,Jz ((aW x).length-1))
theorem Qja(n l i):Qmy (Q9 (J8 n l) i)=Q30 (Q9 n i) l:=by rw[Q6x];rfl
def Qaq(at_:List Int)(m:Qyb)(p x:Wd):Qyb:=Qm m (at_.getD p.1.toNat 0) (p.2-1) x
def Q4l(at_:List Int)(m:Qyb)(w:Qy3):Qyb:=Qaq at_ (Qaq at_ (Qw m) w.1 (2,mF m)) w.2 (2,mF m)
def Q8r(n:Qy0)(p:Wd):Bool:=decide (0<p.2) && (Qe n p).2==0
def Q5s(n:Qy0)(at_:List Int)(m:Qyb)(p:Wd):Qyb:=Qaq at_ m p (1,at_.getD (Qe n p).1.toNat 0)
def Q2e(n:Qy0)(l:Int)(m:Qyb)(b:Int):Qyb:=
 let at_:=(Qxs n l m (n.length-1)).set 0 b
 let m1:=(Zg n).foldl (Q4l at_) (Jg n l m (n.length-1))
 let m2:=((Qk n).filter (Q8r n)).foldl (Q5s n at_) m1
 let m3:=(Y5 n).foldl (λm p=>Ya m (at_.getD p.1.toNat 0) (at_.getD p.2.toNat 0)) m2
 if(Qe n (0,0)).2==0 then Ya m3 b (at_.getD (Qe n (0,0)).1.toNat 0)else m3
theorem Qok(m)(i:Int)(ws)(h:¬i.toNat<(mC m)):Qa m i ws=m:=by
 unfold Qa Qg1;rw[If (by omega)];rfl
theorem Qw3(m i j)(h:i.toNat=j.toNat)(ws):Qa m i ws=Qa m j ws:=by
 unfold Qa Qg1 Q7;rw[h]
theorem Qkg(m i j k)(h:i.toNat=j.toNat)(x):Qm m i k x=Qm m j k x:=by
 grind[Qm,Qw3,Q7]
def Qqs{m i j k r x y}(h:i.toNat≠j.toNat\/k.toNat≠r.toNat):Qm (Qm m i k x) j r y=Qm (Qm m j r y) i k x:=by
 by_cases e:i.toNat=j.toNat
 ·have B:k.toNat≠r.toNat:=h.resolve_left (λh=>h e)
  rw[Qkg (Qm m i k x) j i r e.symm,Qkg m j i r e.symm];grind[Qm,Q5q,Q5e,Ig,Qok]
 grind[Qm,Q72,Q7v]
def Qoj{m i k x}:Qm (Qm m i k x) i k x=Qm m i k x:=by
 grind[Qm,Q5q,Q5e,He,Qok]
def Qse{m i k x}(h:i.toNat≠(mF m).toNat):Qw (Qm m i k x)=Qm (Qw m) i k x:=by
 grind[Qm,Qw,Q3y,Yr]
def Qr4{m l}(h:Yq m l){i k x}(B:i.toNat∉l):Yq (Qm m i k x) l:=h.put _ B
def Qrn{α β:Type}{f}{P:α->Prop}(T:∀x y,P x->P y->∀m,f (f m x) y=f (f m y) x)(U:∀x,P x->∀m,f (f m x) x=f m x){B C:List α}(F:∀x∈B,P x)(J:∀x,x∈B↔x∈C)(m:β):B.foldl f m=C.foldl f m:=by
 have K:∀x∈C,P x:=λx G=>F x ((J x).2 G);have V:∀(l:List α),(∀x∈l,P x)->∀x,P x->∀m,l.foldl f (f m x)=f (l.foldl f m) x:=by
  intro l;induction l with
  |nil=>intro _ _ _ _;rfl
  |cons a l ih=>grind
 have L:∀(l:List α),(∀x∈l,P x)->∀x∈l,∀m,f (l.foldl f m) x=l.foldl f m:=by
  intro l;induction l with
  |nil=>intro _ _ h;cases h
  |cons a l ih=>grind
 have M:∀(l:List α),(∀x∈l,x∈C)->∀m,l.foldl f (C.foldl f m)=C.foldl f m:=by
  intro l;induction l with
  |nil=>intro _ _;rfl
  |cons a l ih=>intro E m;rw[Cb,L C K a (E a Ae)];exact ih (λy H=>E y (Aa _ H)) m
 have O:∀(l:List α),(∀x∈l,P x)->∀(k:List α),(∀x∈k,P x)->∀m,k.foldl f (l.foldl f m)=l.foldl f (k.foldl f m):=by
  intro l E k;induction k with
  |nil=>intro _ _;rfl
  |cons a k ih=>simp_all
 have S:∀m,C.foldl f (B.foldl f m)=B.foldl f m:=by
  have:∀(l:List α),(∀x∈l,x∈B)->∀m,l.foldl f (B.foldl f m)=B.foldl f m:=by
   intro l;induction l with
   |nil=>intro _ _;rfl
   |cons a l ih=>intro E m;rw[Cb,L B F a (E a Ae)];exact ih (λy H=>E y (Aa _ H)) m
  grind
 rw[<-S m,O B F C K,M B (λx G=>(J x).1 G)]
theorem Yn{n:Qy0}{p}:p∈Qk n↔(0<=p.1/\p.1<n)/\0<=p.2/\p.2<(aW (Q7 n p.1)):=by
 constructor
 ·intro h
  obtain⟨i,C,h⟩:=Cz.1 h;obtain⟨k,E,rfl⟩:=Dx.1 h;grind[Q7]
 rintro⟨⟨F,G⟩,H,B⟩;refine Cz.2 ⟨p.1.toNat,Cy.2 (by omega),Dx.2 ⟨p.2.toNat,Cy.2 ?_, ?_⟩⟩
 ·unfold Q7 at B;omega
 grind
theorem J1{n:Qy0}(h:Yd n=Bn){p}(C:p∈Qk n):Qe n p∈Qk n/\Qe n p≠p/\Qe n (Qe n p)=p:=by
 unfold Yd at h;simp only[Bi]at h;have B:=Bf.1 h.2 p C;unfold Q0x Q12 at B;simp only[Bi,beq_iff_eq]at B;grind[Qj,Yn]
theorem Q3h{n:Qy0}{w}:w∈Yw n↔w.1∈Qk n/\Vm w.1 (Qe n w.1)=Bn/\w.2=Qe n w.1:=by
 grind[Yw]
theorem Qcr{p q}(h:q≠p):Vm p q=Bn\/Vm q p=Bn:=by
 obtain⟨a,b⟩:=p;obtain⟨c,d⟩:=q;unfold Vm;grind
def Q3d(w:Qy3):List Wd:=if 0<w.1.2/\0<w.2.2 then []else if 0<w.1.2 then [w.1]else if 0<w.2.2 then [w.2]else []
def Qbx(w:Qy3):Bool:=decide (0<w.1.2) && decide (0<w.2.2)
def Q9n(n:Qy0)(at_:List Int)(m:Qyb)(w:Qy3):Qyb:=if Qbx w then Q4l at_ m w else(Q3d w).foldl (Q5s n at_) m
def Qfs{n:Qy0}(h:Yd n=Bn)(p):p∈(Yw n).flatMap Q3d↔p∈(Qk n).filter (Q8r n):=by
 constructor
 ·intro B
  obtain⟨w,J,B⟩:=Cz.1 B;obtain⟨E,L,K⟩:=Q3h.1 J;obtain⟨C,G,F⟩:=J1 h E;obtain⟨q1,M,O⟩:=Yn.1 E;obtain⟨P,S,T⟩:=Yn.1 C;unfold Q3d at B;split at B
  ·cases B
  split at B
  ·obtain rfl:p=w.1:=by simpa using B
   refine Di.2 ⟨E, ?_⟩;unfold Q8r;grind
  split at B
  ·obtain rfl:p=w.2:=by simpa using B
   rw[K]at *
   refine Di.2 ⟨C, ?_⟩;unfold Q8r;grind
  cases B
 intro B;obtain⟨B,H⟩:=Di.1 B;unfold Q8r at H;simp only[Bi,decide_eq_true_eq,beq_iff_eq]at H;obtain⟨C,G,F⟩:=J1 h B;rcases Qcr G with hb|hb
 ·refine Cz.2 ⟨(p,Qe n p),Q3h.2 ⟨B,hb,rfl⟩, ?_⟩
  grind[Q3d]
 refine Cz.2 ⟨(Qe n p,p),Q3h.2 ⟨C,by rw[F];exact hb,by rw[F]⟩, ?_⟩;grind[Q3d]
structure Qnz (n:Qy0) (at_:List Int) (l:List Nat):Prop where
 nin:∀i,1<=i->i<n.length->(at_.getD i 0).toNat∉l
 inj:∀i j,1<=i->i<n.length->1<=j->j<n.length->i≠j->(at_.getD i 0).toNat≠(at_.getD j 0).toNat
def Q26(n:Qy0)(p:Wd):Prop:=(1<=p.1/\p.1<n)/\0<p.2
def Qvs{n at_ l}(h:Qnz n at_ l){p q}(B:Q26 n p)(C:Q26 n q)(E:p≠q):(at_.getD p.1.toNat 0).toNat≠(at_.getD q.1.toNat 0).toNat\/(p.2-1).toNat≠(q.2-1).toNat:=by
 obtain⟨⟨F,G⟩,H⟩:=B;obtain⟨⟨J,K⟩,L⟩:=C;by_cases e:p.1=q.1
 ·grind
 left;exact h.inj _ _ (by omega) (by omega) (by omega) (by omega) (by omega)
theorem Qbq{n at_ l}(h:Qnz n at_ l){p q}(B:Q26 n p)(C:Q26 n q)(E:p≠q)(m x y):Qaq at_ (Qaq at_ m p x) q y=Qaq at_ (Qaq at_ m q y) p x:=
 Qqs (Qvs h B C E)
theorem Qs6{n at_ e l}(h:Qnz n at_ (e::l)){p}(B:Q26 n p){m}(C:mF m=(e:Int))(x):Qw (Qaq at_ m p x)=Qaq at_ (Qw m) p x:=by
 refine Qse ?_;have:=h.nin p.1.toNat (by have:=B.1;omega) (by have:=B.1;omega);grind
theorem Qnz.tail{n at_ e l}(h:Qnz n at_ (e::l)):Qnz n at_ l:=⟨λi B C E=>h.nin i B C (Aa _ E),h.inj⟩
theorem Qbn{n at_ l}(h:Qnz n at_ l){p}(B:Q26 n p){m}(C:Yq m l){x}:Yq (Qaq at_ m p x) l:=
 Qr4 C (h.nin p.1.toNat (by have:=B.1;omega) (by have:=B.1;omega))
def Qid{n at_ e l}(h:Qnz n at_ (e::l)){w}(B:Q26 n w.1/\Q26 n w.2){m}(C:Yq m (e::l)):Yq (Q4l at_ m w) l:=
 Qbn h.tail B.2 (Qbn h.tail B.1 (C.take Z6).1)
theorem Qrb{n at_ e l}(h:Qnz n at_ (e::l)){w}(C:Q26 n w.1/\Q26 n w.2){p}(B:Q26 n p)(E:p≠w.1)(F:p≠w.2){m}(G:Yq m (e::l))(x):Q4l at_ (Qaq at_ m p x) w=Qaq at_ (Q4l at_ m w) p x:=by
 have H:mF (Qaq at_ m p x)=mF m:=rfl;unfold Q4l;rw[H,Qs6 h B (G.take Z6).2.1,Qbq h.tail B C.1 E,Qbq h.tail B C.2 F]
theorem Qhz{n:Qy0}{at_:List Int}{p:Wd}(C:Q26 n p)(x:Wd):∀(B:List Qy3) (l:List Nat) (m:Qyb),Qnz n at_ l->Yq m l->B.length<=l->(∀w∈B,(Q26 n w.1/\Q26 n w.2)/\p≠w.1/\p≠w.2)->B.foldl (Q4l at_) (Qaq at_ m p x)=Qaq at_ (B.foldl (Q4l at_) m) p x
 | [],_,_,_,_,_,_=>rfl
 |w::B,l,m,ha,hf,hl,hI=>by
  obtain⟨e,l',rfl⟩:∃e l',l=e::l':=by
   match l,(show 0<l.length by simp only[Br]at hl;omega)with
   |e::l',_=>exact⟨e,l',rfl⟩
  obtain⟨E,F,G⟩:=hI w Ae;rw[Cb,Qrb ha E C F G hf];exact Qhz C x B l' _ ha.tail (Qid ha E hf) (by simp only[Br]at hl;omega) (λv H=>hI v (Aa _ H))
theorem Q7n{n:Qy0}{at_:List Int}:∀(L:List Qy3) (l:List Nat) (m:Qyb),Qnz n at_ l->Yq m l->(L.filter Qbx).length<=l->(∀w∈L,Qbx w=Bn->Q26 n w.1/\Q26 n w.2)->(∀w∈L,∀p∈Q3d w,Q26 n p)->(∀w∈L,∀p∈Q3d w,∀v∈L,Qbx v=Bn->p≠v.1/\p≠v.2)->
  L.foldl (Q9n n at_) m=(L.flatMap Q3d).foldl (Q5s n at_) ((L.filter Qbx).foldl (Q4l at_) m)
 | [],_,_,_,_,_,_,_,_=>rfl
 |w::L,l,m,ha,hf,hl,h1,h2,h3=>by
  have F:∀v∈L,Qbx v=Bn->Q26 n v.1/\Q26 n v.2:=λv C=>h1 v (Aa _ C);have H:∀v∈L,∀p∈Q3d v,Q26 n p:=λv C=>h2 v (Aa _ C);have J:∀v∈L,∀p∈Q3d v,∀u∈L,Qbx u=Bn->p≠u.1/\p≠u.2:=λv C p E u O=>h3 v (Aa _ C) p E u (Aa _ O);rw[Cb];by_cases B:Qbx w=Bn
  ·have P:Q3d w=[]:=by
    unfold Qbx at B;simp only[Bi,decide_eq_true_eq]at B;unfold Q3d;rw[if_pos B]
   rw[List.filter_cons_of_pos B,Cr,P,List.nil_append,Cb];rw[List.filter_cons_of_pos B]at hl;obtain⟨e,l',rfl⟩:∃e l',l=e::l':=by
    match l,(show 0<l.length by simp only[Br]at hl;omega)with
    |e::l',_=>exact⟨e,l',rfl⟩
   have G:Q9n n at_ m w=Q4l at_ m w:=by unfold Q9n;rw[if_pos B]
   rw[G];exact Q7n L l' _ ha.tail (Qid ha (h1 w Ae B) hf) (by simp only[Br]at hl;omega) F H J
  have G:Q9n n at_ m w=(Q3d w).foldl (Q5s n at_) m:=by unfold Q9n;rw[if_neg B]
  rw[List.filter_cons_of_neg B]at hl;rw[List.filter_cons_of_neg B,Cr,Dj,G];have S:∀p∈Q3d w,Q26 n p/\∀v∈L.filter Qbx,(Q26 n v.1/\Q26 n v.2)/\p≠v.1/\p≠v.2:=λp E=>⟨h2 w Ae p E,λv C=>by obtain⟨v1,K⟩:=Di.1 C;exact⟨F v v1 K,h3 w Ae p E v (Aa _ v1) K⟩⟩;have M:Yq ((Q3d w).foldl (Q5s n at_) m) l/\(L.filter Qbx).foldl (Q4l at_) ((Q3d w).foldl (Q5s n at_) m)=(Q3d w).foldl (Q5s n at_) ((L.filter Qbx).foldl (Q4l at_) m):=by grind[Q3d,Q5s,Qbn,Qhz]
  rw[Q7n L l _ ha M.1 hl F H J,M.2]
theorem Q47{n:Qy0}(h:Yd n=Bn):1<=n.length/\(aW (Q9 n 0)).length=1:=by
 obtain⟨⟨-,F⟩,G,-,-⟩:=Yl h;unfold Yd Jr at h;simp only[Bi]at h;have B:=Bf.1 h.1.2 0 (Cy.2 (by omega));simp only[Bi]at B;have E:aK (Q9 n 0)=1:=by simpa using B.2
 have C:=B.1;unfold Yb at C;rw[E]at C;simp only[Bi,beq_iff_eq]at C;grind[V4]
theorem Q64{n:Qy0}(h:Yd n=Bn){p}(B:p∈Qk n)(C:p.1=0):p=(0,0):=by
 grind[Yn,Q47,Q7]
theorem Q7d{n:Qy0}(h:Yd n=Bn){p}(B:p∈Qk n)(C:0<p.2):Q26 n p:=by
 obtain⟨⟨a,b⟩,-,-⟩:=Yn.1 B;refine⟨⟨?_,b⟩,C⟩;grind[Q64]
theorem Q0b(at_:List Int)(b){i}(h:1<=i):(at_.set 0 b).getD i 0=at_.getD i 0:=by
 grind
def Qmc{at_:List Int}{b}(h:0<at_.length):(at_.set 0 b).getD 0 0=b:=by
 grind
theorem Qoe{n:Qy0}(h:Yd n=Bn){at_ b}(f:0<at_.length)(s){w}(K:w∈Yw n):(Yj at_ (1,b) s w).1=Q9n n (at_.set 0 b) s.1 w:=by
 obtain⟨B,G,C⟩:=Q3h.1 K;obtain⟨E,T,L⟩:=J1 h B;rw[<-C]at E T L;obtain⟨⟨g,i⟩,j,U⟩:=Yn.1 B;obtain⟨⟨k,l⟩,m,V⟩:=Yn.1 E;rw[<-C]at G;have W:=Q64 h B;have o:=Q7d h B;have X:=Q7d h E;have Y:Qe n w.1=w.2:=C.symm;obtain⟨⟨a,d⟩,⟨c,H⟩⟩:=w;simp only at *
 clear B E K C U V;unfold Vm at G;simp only[Ew,decide_eq_true_eq,Bi,beq_iff_eq]at G;by_cases M:a=0
 ·have e:=W M
  obtain⟨rfl,rfl⟩:=e;by_cases F:H=0
  ·subst F
   simp[Yj,Q9n,Qbx,Q3d]
  have p:=(X (by omega)).1;grind[Yj,Q9n,Qbx,Q3d,Q5s,Qaq]
 have O:(a==0)=Bm:=by simpa using M
 have P:=Q0b at_ b (show 1<=a.toNat by omega);have S:=Q0b at_ b (show 1<=c.toNat by omega);by_cases F:0<d
 ·by_cases J:0<H
  ·unfold Yj Q9n Qbx Q4l Qaq
   grind
  unfold Yj Q9n Qbx Q3d;simp only[O,F,J,decide_true,decide_false,Ej,Ct,Dc,if_false,if_true,and_false,Cb,List.foldl_nil,Q5s,Qaq,Y,P,S]
 by_cases J:0<H
 ·unfold Yj Q9n Qbx Q3d
  simp only[O,F,J,decide_true,decide_false,Bool.and_true,Ej,Ct,Dc,if_false,if_true,and_true,Cb,List.foldl_nil,Q5s,Qaq,L,P,S]
 unfold Yj Q9n Qbx Q3d;grind
def Qou(at_ B s w):(Yj at_ B s w).2=if w.1.1==0 then(if w.2.2==0 then((1:Int),at_.getD w.2.1.toNat 0)else B)else s.2:=by
 unfold Yj;grind
def Qei{n:Qy0}(h:Yd n=Bn){at_:List Int}{b:Int}(E:0<at_.length)(v:Wd)(F:v=if(Qe n (0,0)).2==0 then((1:Int),at_.getD (Qe n (0,0)).1.toNat 0)else(1,b)):∀(L:List Qy3) (s:Qyb×Wd),(∀w∈L,w∈Yw n)->
  (L.foldl (Yj at_ (1,b)) s).1=L.foldl (Q9n n (at_.set 0 b)) s.1/\((L.foldl (Yj at_ (1,b)) s).2=v\/(L.foldl (Yj at_ (1,b)) s).2=s.2)/\((∃w∈L,w.1.1=0)->(L.foldl (Yj at_ (1,b)) s).2=v)
 | [],_,_=>⟨rfl,.inr rfl,λ⟨_,h,_⟩=>by cases h⟩
 |w::L,s,hL=>by
  have G:=hL w Ae;obtain⟨K,B,M⟩:=Qei h E v F L (Yj at_ (1,b) s w) (λu C=>hL u (Aa _ C));have H:=Qou at_ (1,b) s w;obtain⟨O,-,P⟩:=Q3h.1 G;have J:w.1.1=0->(Yj at_ (1,b) s w).2=v:=λe=>by have:=Q64 h O e;rw[H,e,F,P,this];rfl
  rw[Cb,Cb];refine⟨by rw[K,Qoe h E s G], ?_, ?_⟩
  ·rcases B with B|B
   ·exact .inl B
   by_cases e:w.1.1=0
   ·exact .inl (B.trans (J e))
   right;rw[B,H,if_neg (by simpa using e)]
  rintro⟨u,C,e⟩;rcases Aq.1 C with rfl|C
  ·rcases B with B|B
   ·exact B
   exact B.trans (J e)
  exact M ⟨u,C,e⟩
theorem Qdw{at_ at':List Int}:∀(L:List Wd) (m:Qyb),(∀p∈L,at'.getD p.1.toNat 0=at_.getD p.1.toNat 0/\at'.getD p.2.toNat 0=at_.getD p.2.toNat 0)->L.foldl (λm p=>Ya m (at'.getD p.1.toNat 0) (at'.getD p.2.toNat 0)) m=L.foldl (λm p=>Ya m (at_.getD p.1.toNat 0) (at_.getD p.2.toNat 0)) m
 | [],_,_=>rfl
 |p::L,m,h=>by rw[Cb,Cb,(h p Ae).1,(h p Ae).2];exact Qdw L _ λq B=>h q (Aa _ B)
theorem Qdf{n:Qy0}(h:Yd n=Bn){m l}(O:Yq m l)(hl:n.length-1+(Zg n).length<=l){b}(A7:0<=b)(G:b.toNat∉l)(bk x)(a:Yc bk (aV x)=n):Q2e n (aL x) m b=V2 bk m x b:=by
 obtain⟨A8,A9⟩:=Q47 h;have c:=Jm.nodup O;obtain⟨d,t2,S⟩:=Qev (n:=n) (by_:=aL x) O (n.length-1) (by omega);have f:0<(Qxs n (aL x) m (n.length-1)).length:=by rw[Q7r];omega
 have J:∀i,1<=i->i<n.length->((Qxs n (aL x) m (n.length-1)).set 0 b).getD i 0=((l.getD (i-1) 0:Nat):Int)/\l.getD (i-1) 0∉l.drop (n.length-1):=λi H K=>by rw[Q0b _ _ H];obtain⟨k,rfl⟩:∃k,i=k+1:=⟨i-1,by omega⟩;rw[Qj5 n (aL x) m (by omega)];exact⟨(S k (by omega)).1,(S k (by omega)).2.2.1⟩
 have T:Qnz n ((Qxs n (aL x) m (n.length-1)).set 0 b) (l.drop (n.length-1)):=⟨λi H K=>by rw[(J i H K).1,Bq];exact(J i H K).2,λi j H K g o AA=>by rw[(J i H K).1,(J j g o).1,Bq,Bq];exact Q4x c (by omega) (by omega) (by omega)⟩;have r:V2 bk m x b=(let s:=V8 n (aL x) (1,b) m;if s.2.2 !=b then Ya s.1 b s.2.2 else s.1):=by unfold V2;rw[show V2.netOf' bk (aV x)=n from a]
 rw[r];unfold Q2e V8;simp only[];obtain⟨v,L⟩:∃v:Wd,v=if(Qe n (0,0)).2==0 then((1:Int),(Qxs n (aL x) m (n.length-1)).getD (Qe n (0,0)).1.toNat 0)else(1,b):=⟨_,rfl⟩;obtain⟨w1,-,t⟩:=Qei h f v L (Yw n) (Jg n (aL x) m (n.length-1),(0,0)) (λ_ h=>h);have U:((0:Int),(0:Int))∈Qk n:=Yn.2 ⟨⟨by simp,by simp;omega⟩,by simp,by show(0:Int)<((aW (Q9 n 0)):Int);omega⟩;obtain⟨y,V,r3⟩:=J1 h U;obtain⟨⟨q1,q2⟩,q3,q4⟩:=Yn.1 y;have z:Vm ((0:Int),(0:Int)) (Qe n (0,0))=Bn:=by
  rcases Qcr V with G|G
  ·exact G
  unfold Vm at G;simp only[Ew,decide_eq_true_eq,Bi,beq_iff_eq]at G;omega
 have A0:(((0:Int),(0:Int)),Qe n (0,0))∈Yw n:=Q3h.2 ⟨U,z,rfl⟩;have A1:=t ⟨(((0:Int),(0:Int)),Qe n (0,0)),A0,rfl⟩;rw[w1,A1]
 have A2:=Q7n (at_:=(Qxs n (aL x) m (n.length-1)).set 0 b) (Yw n) _ _ T d (by rw[List.length_drop];show(Zg n).length<=_;omega)
  (λw M E=>by obtain⟨F,-,k3⟩:=Q3h.1 M;unfold Qbx at E;simp only[Bi,decide_eq_true_eq]at E;exact⟨Q7d h F E.1,Q7d h (by rw[k3];exact(J1 h F).1) E.2⟩)
  (λw M p C=>by have:=(Qfs h p).1 (Cz.2 ⟨w,M,C⟩);obtain⟨F,B⟩:=Di.1 this;unfold Q8r at B;simp only[Bi,decide_eq_true_eq]at B;exact Q7d h F B.1)
  (λw M p C u hu E=>by
   have:=(Qfs h p).1 (Cz.2 ⟨w,M,C⟩);obtain⟨F,B⟩:=Di.1 this;unfold Q8r at B;simp only[Bi,decide_eq_true_eq,beq_iff_eq]at B;obtain⟨u1,-,W⟩:=Q3h.1 hu;unfold Qbx at E;simp only[Bi,decide_eq_true_eq]at E;refine⟨λe=> ?_,λe=> ?_⟩
   ·rw[e,<-W]at B;omega
   rw[e,W,(J1 h u1).2.2]at B;omega)
 rw[A2];have A3:((Yw n).flatMap Q3d).foldl (Q5s n ((Qxs n (aL x) m (n.length-1)).set 0 b)) (((Yw n).filter Qbx).foldl (Q4l ((Qxs n (aL x) m (n.length-1)).set 0 b)) (Jg n (aL x) m (n.length-1)))=((Qk n).filter (Q8r n)).foldl (Q5s n ((Qxs n (aL x) m (n.length-1)).set 0 b)) (((Yw n).filter Qbx).foldl (Q4l ((Qxs n (aL x) m (n.length-1)).set 0 b)) (Jg n (aL x) m (n.length-1))):=by
  refine Qrn (P:=Q26 n) (λp q C X m=> ?_) (λp C m=> ?_) (λp C=> ?_) (Qfs h) _
  ·by_cases e:p=q
   ·rw[e]
   exact Qbq T C X e _ _ _
  ·exact Qoj
  obtain⟨F,B⟩:=Di.1 ((Qfs h p).1 C);unfold Q8r at B;simp only[Bi,decide_eq_true_eq]at B;exact Q7d h F B.1
 rw[A3];have A4:(Yw n).filter Qbx=Zg n:=rfl;rw[A4];rw[Qdw (at_:=Qxs n (aL x) m (n.length-1)) (at':=(Qxs n (aL x) m (n.length-1)).set 0 b) (Y5 n) _ (λp C=>by unfold Y5 at C;obtain⟨i,E,rfl⟩:=Dx.1 C;have A5:=(Di.1 E).2;simp only[Bi,bne_iff_ne,decide_eq_true_eq,beq_iff_eq]at A5;exact⟨Q0b _ _ (by simp only;omega),Q0b _ _ (by simp only;omega)⟩)];cases ht:((Qe n (0,0)).2==0)with
 |true=>
  rw[ht,if_pos rfl]at L;have A6:(Qe n (0,0)).2=0:=by simpa using ht
  have X:1<=(Qe n (0,0)).1:=by
   by_cases e:(Qe n (0,0)).1=0
   ·exact absurd (Prod.ext e A6) V
   omega
  have Y:=J (Qe n (0,0)).1.toNat (by omega) (by omega);rw[Q0b _ _ (by omega)]at Y⊢;rw[if_pos rfl,L,if_pos];simp only[bne_iff_ne];intro e;rw[Y.1]at e;refine G ?_;rw[<-e,Bq,Ab,Ad (by omega)];exact As _
 |false=>rw[ht,if_neg (by simp)]at L;rw[if_neg (by simp),L];simp
end Go.Proofs.YtcjngpfigpglfaaGreatDoor
