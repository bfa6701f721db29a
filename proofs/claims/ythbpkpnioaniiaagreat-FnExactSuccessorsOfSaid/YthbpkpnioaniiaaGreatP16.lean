import Derived.Test.YthbpkpnioaniiaaGreatP08
set_option maxHeartbeats 40000000
set_option maxRecDepth 100000
set_option linter.all false
namespace Go.Proofs.YthbpkpnioaniiaaGreat
open Go.RowKit Go.Proofs.Tryz
open Go.Value renaming int->I,slice->A
open Go.IntKind renaming i64->Z
open Option renaming none->N,some->R
open Go renaming maxLen->Bp,heap_alloc_new->Bg
open Go.Addr.mk renaming injEq->Ck
open List renaming foldl_cons->Ce,range->Bz
open Nat renaming mul_one->Cb,add_zero->Cq,reduceAdd->Bj,zero_mul->Db
open Option.some renaming injEq->Bu
def Qnt(n:Nat)(l:List Nat)(L:List Int):Prop:=∀a∈L,∃q:Nat,a=(q:Int)/\q<n/\q∉l
theorem Q18(m:Qqp)(l:Int):∀n,(Jb m l n).2.length=n
 |0=>rfl
 |n+1=>by simp[Jb,Q18 m l n]
theorem Ql9(m:Qqp)(l:Int):∀n,mX (Jb m l n).1=mX m
 |0=>rfl
 |n+1=>by show mX (Jb m l n).1=_;exact Ql9 m l n
theorem Qa5(m:Qqp)(l:Int):∀n,(mC (Jb m l n).1).length=(mC m).length
 |0=>rfl
 |n+1=>by simp only[Jb,Qd,Qa5 m l n]
theorem Q8a(x y:Qb)(B:List Int):∀(l:List Nat) (m:Qqp),(mC (l.foldl (Yw x y B) m)).length=(mC m).length
 | [],_=>rfl
 |a::l,m=>by rw[Ce,Q8a x y B l];exact Q1k _ _ _
theorem Q84(x y:Qb)(B:List Int):∀(l:List Nat) (m:Qqp),mX (l.foldl (Yw x y B) m)=mX m
 | [],_=>rfl
 |a::l,m=>by rw[Ce,Q84 x y B l];rfl
theorem Qkf(w:World)(pb po:Nat)(m:Qqp)(S:MS)(h:Z8 w pb po m S)(xb xo yb yo:Nat)(V d M:Int)(f:List Int)(C:List Wd)(Gx:List Nat)(U E g:Int)(G:List Int)(J:List Wd)(Gy:List Nat)
  (hx:Q49 Q3 w xb xo (V,d,M,f,C) Gx) (hy:Q49 Q3 w yb yo (U,E,g,G,J) Gy) (ax:Q8i (xb::Gx) pb S) (ay:Q8i (yb::Gy) pb S) (c:Nat) (l:List Nat) (hl:Yf m (c::l)) (BX:C.length<=l.length) (hw:C.length<=1000) (B6:0<J.length) (BY:0<G.length)
  (hd:U=10->0<=M/\M<G.length) (B7:U≠10->2<=G.length) (hX:(mX m).length<=1000000):
  Calls prog 194 #[.pointer (R ⟨pb,po,N⟩),.pointer (R ⟨xb,xo,N⟩),.pointer (R ⟨yb,yo,N⟩)] w λe w'=>∃v' S' l',e=.returned v'/\Qk w S pb po w' (Vy m (V,d,M,f,C) (U,E,g,G,J)).1 S' l'/\Y9 w S' w' v' (Vy m (V,d,M,f,C) (U,E,g,G,J)).2:=by
 have AD:=qh (Qk.start h hl);obtain⟨F0,F1,D3,BZ,ix,-,D4,B8⟩:=hx.facts ax;obtain⟨F2,F3,F5,D5,iy,D6,D7,C0⟩:=hy.facts ay;unfold Bp at D4 D6 D7;have AT:=qh B8;have A7:=qh C0;have F6:=qh ix;have C1:=qh iy;have D8:=qh BX;have AU:D (pb<w.heap.size/\S.cb<w.heap.size):=qh (⟨h.lt pb Ae,h.lt S.cb (Aa _ Ae)⟩);have D9:=qh h.lt;have DA:D (¬(yb=pb\/yb=S.cb)):=qh (λe=>ay yb Ae (e.elim (λe=>e▸Ae) (λe=>Aa _ (Q19 e))));have B9:D (xb≠S.cb/\∀b o,D3=R ⟨b,o,N⟩->C≠ []->b≠S.cb):=qh (by refine⟨λe=>ax xb Ae (Aa _ (Q19 e)),λb o hp DB e=> ?_⟩;obtain⟨us,h1,h2,h3,h4⟩:=hx;obtain⟨F7,F8,F9,FA,Gd,Gw,rfl,rfl,FB,DC,i1,i2,i3⟩:=h3.agent;have e4:=(B8 w (Q1.refl _ _)).1.2.2.2.2;have e5:=(Q4b h2).2.2.2.2;rw[e4]at e5;simp only[Bu,Value.slice.injEq]at e5;have n:=DC.block0 (e5.1.symm.trans hp) DB;exact ax b (Aa _ (Af _ n)) (Aa _ (Q19 e)));clear B8 C0 ix iy h hx hy ax ay BX;obtain⟨⟨y0,y1,y2,y3,y4⟩,AE,A8⟩:=A7.o w (Q1.refl _ _);obtain⟨⟨x0,x1,x2,x3,x4⟩,DD,DE⟩:=AT.o w (Q1.refl _ _);obtain⟨bd,od,rfl,A4⟩:=Rd.elem AE 0 BY;obtain⟨d0,C2⟩:=At.int A4;simp only[Ty.sz,Cb,Cq]at d0;have DF:=qh C2;clear A4 C2 DD DE;have FC:(0:Int)<G.length:=by omega
 have AV:D (Q12 (V,d,M,f,C) (U,E,g,G,J)=if U==10 then G.getD M.toNat 0 else if M==0 then G.getD 1 0 else G.getD 0 0):=by show _=_;rfl
 have DG:D (G[0]=G.getD 0 0):=qh (by simp[List.getD_eq_getElem?_getD,BY]);go_enter func194,ntmps194;go_upto_if 23 with(fail)
 go_cut [7] (λu wx=>u=I Z (Q12 (V,d,M,f,C) (U,E,g,G,J))/\D (Qqm (Q12 (V,d,M,f,C) (U,E,g,G,J)))/\D (Qk w S pb po wx m S (c::l)))
 case first=>
  by_cases q:U=10
  ·subst q
   obtain⟨e1,e2⟩:=hd rfl;have C3:M.toNat<G.length:=by omega
   obtain⟨DH,DI,AG,A4⟩:=Rd.elem AE M.toNat C3;simp only[Bu,Ck,and_true]at AG;obtain⟨rfl,rfl⟩:=AG;obtain⟨dv,AH⟩:=At.int A4;simp only[Ty.sz,Cb]at dv;have HI:=qh AH;have HG:D (Q12 (V,d,M,f,C) (10,E,g,G,J)=G[M.toNat]):=qh (by rw[AV.o];simp[List.getD_eq_getElem?_getD,C3]);clear A4 AH AE A8 hd B7;go_wp2_with fail
   go_quiet(fail)
   go_wp2;go_meet;exact⟨by rw[HG.o],(show Qqm _ by rw[HG.o];exact HI.o),AD.o.other (Y:=λ_=>False) ((Q1.refl _ _).drewN _) (λ_ h=>h.elim)⟩
  ·have qb:(U==10)=false:=by simpa using q
   have h2:=B7 q;obtain⟨DH,DI,AG,A4⟩:=Rd.elem AE 1 h2;simp only[Bu,Ck,and_true]at AG;obtain⟨rfl,rfl⟩:=AG;obtain⟨dv,AH⟩:=At.int A4;simp only[Ty.sz,Cb]at dv;have HI:=qh AH;have FD:(1:Int)<G.length:=by omega
   have HQ:=qh qb;clear A4 AH AE A8 hd B7 q;by_cases z:M=0
   ·subst z
    have HG:D (Q12 (V,d,0,f,C) (U,E,g,G,J)=G[1]):=qh (by rw[AV.o,HQ.o];show G.getD 1 0=_;rw[Ab,Ad (by omega)];rfl);go_wp2_with fail
    go_meet;exact⟨by rw[HG.o],(show Qqm _ by rw[HG.o];exact HI.o),AD.o⟩
   ·have zb:(M==0)=false:=by simpa using z
    have HZ:=qh zb;have HG:D (Q12 (V,d,M,f,C) (U,E,g,G,J)=G[0]):=qh (by rw[AV.o,HQ.o,HZ.o,DG.o];rfl);go_wp2_with fail
    go_meet;exact⟨by rw[HG.o],(show Qqm _ by rw[HG.o];exact DF.o),AD.o⟩
 case rest=>
  obtain⟨rfl,C4,BA⟩:=hcut;rename World=>w0
  obtain⟨ch,BB⟩:∃ch,ch=Q12 (V,d,M,f,C) (U,E,g,G,J):=⟨_,rfl⟩;rw[<-BB]at C4⊢;have DJ:=qh BB.symm;clear BB AV;obtain⟨⟨-,z1,-,-,-⟩,-,-⟩:=A7.o _ BA.o.fr;go_wp2_with(first|((go_at_call 192;refine(Q4v BA.o 12 E ch N N 0 0 0 0 (12,E,ch,[],[]) [] (Ow.mkAgent (by unfold Qqm;omega) C1.o.2.1 C4.o (Ow.nil _) (Ow.nil _)) (by simp) (by simp) (by simp)).mono ?_;rintro e w1 ⟨rfl,hs,hf⟩;have AW:=qh hs;have DK:=qh hf;clear hs hf)))
  have C5:D (Below w1.heap.size w1 (w1.alloc (.cells #[] 2))):=qh (by go_grown);have AX:=qh (AW.o.below C5.o);have C6:D (Yy .int w (S.put c []) (w1.alloc (.cells #[] 2)) (A (R ⟨w1.heap.size,0,N⟩) 0 0) []):=qh (Yy.ofOwn (Vv (t:=.int) (T:=2) w1 w1.heap.size rfl rfl) rfl AW.o.fr.size (λb n=>AW.o.mem.lt b (Aa _ n)));obtain⟨P,AI⟩:∃P,P=Qj m (12,E,ch,[],[]):=⟨_,rfl⟩;rw[<-AI]at AX;have DL:=qh AI;have DM:D ((mX P).length<=1000000):=qh (by rw[AI];exact hX);have DN:D (c∉l):=qh ((Ar.1 (Jw.nodup AD.o.free)).1);have DO:D (c<(mC P).length):=qh (by rw[AI,Qd];exact(AD.o.first Z5).2.1);have BC:D ((mC P).length<=9223372036854775807):=qh (by have k:=AX.o.mem.cells.bound;unfold Bp at k;omega);clear AI AW DK C5 hX z1 BA hl y0 y1 y2 y3 y4 x0 x1 x2 x3 x4 D9 d0 AE A8;generalize S.put c []=S1 at *
  generalize w1.alloc (.cells #[] 2)=W2 at *
  go_loopw [9,10] (λu i wr=>∃(j:Nat) (S':MS) (l':List Nat),j<=C.length/\i=I Z j/\D (Qk w S pb po wr (Jb P E j).1 S' l')/\D (Yy .int w S' wr u (Jb P E j).2)/\D (C.length<=l'.length+j)/\D (Qnt (mC P).length l' (Jb P E j).2)/\D (c∉l')) (λ_ i _=>C.length-(intOf i).toNat);case atStart=>exact⟨0,S1,l,Ak _,rfl,AX.o,C6.o,D8.o,(λa ha=>by simp[Jb]at ha),DN.o⟩
  case round=>
   obtain⟨j,S',l',hj,rfl,p,HA,C7,AJ,DP⟩:=hrel;clear AX C6;obtain⟨⟨-,-,-,-,x4⟩,-,-⟩:=AT.o _ p.o.fr;obtain⟨⟨-,y1,-,-,-⟩,-,-⟩:=A7.o _ p.o.fr;have DQ:=qh (Q18 P E j);have C8:=qh (Qa5 P E j);by_cases FE:j<C.length
   ·obtain⟨a,l2,rfl⟩:∃a l2,l'=a::l2:=by
     match l',(show 0<l'.length by have:=C7.o;omega)with
     |a::l2,_=>exact⟨a,l2,rfl⟩
    have BD:D (Jb P E (j+1)=(Qj (Jb P E j).1 (3,E,0,[],[]),(Jb P E j).2++ [mF (Jb P E j).1])):=qh (rfl);generalize Jb P E j=Fj at *
    obtain⟨mj,aj⟩:=Fj;have p:D (Qk w S pb po wr mj S' (a::l2)):=qh (p.o);obtain⟨pa,ca,rfl⟩:=HA.o.form;obtain⟨Fa,C9⟩:=HA.o;have A1:=qh C9;have AY:D (mF mj=(a:Int)/\a<(mC mj).length):=qh (⟨(p.o.first Z5).1,(p.o.first Z5).2.1⟩);have CA:D (Qqm (a:Int)):=qh (by have h1:=AY.o.2;have h2:(mC mj).length=(mC P).length:=C8.o;have:=BC.o;unfold Qqm;omega);have FF:=qh p.o.cb;have FG:=p.o.fr.size;obtain⟨ii,DR,DS,DT,DU⟩:=info_parts Q3n;clear C9;have FH:(0:Int)<=j:=by omega
    have FI:(j:Int)<C.length:=by omega
    have FJ:yb<w.heap.size:=(Ac w _ (A7.o w (Q1.refl _ _)).1.1);have FK:¬(yb=pb\/yb=S.cb):=DA.o;go_wp2_with(first|((go_at_call 192;refine(Q4v p.o 3 E 0 N N 0 0 0 0 (3,E,0,[],[]) [] (Ow.mkAgent (by unfold Qqm;omega) C1.o.2.1 (by unfold Qqm;omega) (Ow.nil _) (Ow.nil _)) (by simp) (by simp) (by simp)).mono ?_;rintro e w3 ⟨rfl,hs,hf⟩;have DV:=qh hs;have BE:=qh hf;clear hs hf))|((at_builtin;refine Q0t _ rfl (.tmp 63) (.tmp 71) 63 rfl (e:=.int) 2 ii _ 8 underlying63 DR DS DT DU rfl (by decide) (v:=A pa aj.length ca) (xs:=aj) (y:=(a:Int)) (vs:=[I Z a]) (F:=Fa) w3.heap.size 1 rfl rfl ((A1.o.1.frame BE.o (λb k=>⟨A1.o.1.lt b k,λe=>by have:=(A1.o.2.2 b k).1;have:=AU.o;omega⟩)).kept λb k=>Az _ _ _ (Ap (A1.o.1.lt b k) BE.o.size)) A1.o.2.1 ⟨rfl,CA.o,rfl⟩ (Qdq (Q8 (Bg w3 _) rfl)) (by simp[Value.oneCell']) (by have h9:aj.length=j:=DQ.o;omega) ?_;intro p4 c4 w4 F4 CB CC CD CE;have DW:=qh CB;have DX:=qh CC;have DY:=qh CD;have DZ:=qh (Q1.trans (show Q1 (λc=>c∈Fa) w3 _ from(Q1.refl _ w3).alloc _) CE);clear CB CC CD CE)))
    have E0:=Jw.nodup p.o.free;have BF:D (∀b∈(S'.put (a:Int) []).all,b∈S'.all):=qh (λb n=>(Zf n).elim (λh=>by simp at h) id);have E1:=p.o.mem.lt;have FL:=BE.o.size;go_roundw;case rel=>exact⟨j+1,S'.put a [],l2,by omega,by go_num,(show Qk _ _ _ _ _ _ _ _ by rw[BD.o];exact DV.o.other DZ.o (λb k=>⟨λn=>(Aq.1 n).elim (λe=>by have:=(A1.o.2.2 b k).1;have:=AU.o.1;omega) (λh=>(A1.o.2.2 b k).2 (BF.o b h)),(A1.o.2.2 b k).1⟩)),(show Yy _ _ _ _ _ _ by rw[BD.o];simp only;rw[AY.o.1];exact⟨F4,DW.o,DX.o,λb k=>(DY.o b k).elim (λh=>⟨(A1.o.2.2 b h).1,λn=>(A1.o.2.2 b h).2 (BF.o b n)⟩) (λe=>⟨by rw[e];simp;omega,λn=>by have:=E1 b (Aa _ (BF.o b n));rw[e]at this;simp at this;omega⟩)⟩),(show _<=_ by have:=C7.o;simp only[List.length_cons]at this;omega),(show Qnt _ _ _ by
     rw[BD.o];simp only;rw[AY.o.1];intro z hz;rcases At0.1 hz with hz|hz
     ·obtain⟨q,h1,h2,h3⟩:=AJ.o z hz
      exact⟨q,h1,h2,λn=>h3 (Aa _ n)⟩
     ·simp only[List.mem_singleton]at hz
      exact⟨a,hz,by have h1:=AY.o.2;have h2:(mC mj).length=(mC P).length:=C8.o;omega,(Ar.1 E0).1⟩),(show ¬_ from λn=>DP.o (Aa _ n))⟩
    case measure=>simp[intOf];omega
   ·have CF:j=C.length:=by omega
    have E2:=qh CF;clear CF;have CG:D (Vy m (V,d,M,f,C) (U,E,g,G,J)=if(Jb P E C.length).2.length=0 then((Jb P E C.length).1,[(J.getD 0 (0,0),((1:Int),(c:Int)))])else(Yu ((Bz (Jb P E C.length).2.length).foldl (Yw (V,d,M,f,C) (U,E,g,G,J) (Jb P E C.length).2) (Jb P E C.length).1) c ((Jb P E C.length).2.getD 0 0),[])):=qh (by unfold Vy;have e1:=(AD.o.first Z5).1;have e2:Q12 (V,d,M,f,C) (U,E,g,G,J)=ch:=DJ.o;simp only[e2,e1,aL,aW];rw[DL.o]);have CH:D ((Jb P E C.length).2.length=C.length):=qh (Q18 _ _ _);have E3:=qh (Ql9 P E C.length);have E4:=qh (Qa5 P E C.length);rw[E2.o]at p HA AJ;generalize Jb P E C.length=Fn at *
    obtain⟨mA,H⟩:=Fn;obtain⟨pa,ca,rfl⟩:=HA.o.form;have E5:H.length<=C.length:=Nat.le_of_eq CH.o;have E6:C.length<=H.length:=Nat.le_of_eq CH.o.symm;obtain⟨by_,oy,BG,hE⟩:=Rd.elem (A7.o _ p.o.fr).2.2 0 B6;obtain⟨g0,g1,CI,CJ⟩:=At.word (t:=J[0].1) (a:=J[0].2) hE;simp only[Ty.sz,Bj,Db,Cq]at g0 g1;have BH:=qh (And.intro CI CJ);have HG:D (J.getD 0 (0,0)=(J[0].1,J[0].2)):=qh (by rw[Ab,Ad B6];rfl);obtain⟨⟨-,-,-,-,y4⟩,-,-⟩:=A7.o _ p.o.fr;rw[BG]at y4;have E7:=qh BG;clear BG;have E8:D (J[0]=(J[0].1,J[0].2)):=qh (rfl);generalize J[0].1=wt at *
    generalize J[0].2=wa at *
    have FM:(0:Int)<J.length:=by omega
    have CK:D (Qqm (c:Int)):=qh (by have:=DO.o;have:=BC.o;unfold Qqm;omega);clear hE CI CJ y1;by_cases FN:C.length=0
    ·have A9:H.length=0:=by omega
     have E9:((H.length:Int)==0)=true:=by simp[A9]
     have AK:D (Vy m (V,d,M,f,C) (U,E,g,G,J)=(mA,[((wt,wa),((1:Int),(c:Int)))])):=qh (by rw[CG.o,if_pos A9,HG.o]);obtain⟨il,FO,FP,FQ,FR⟩:=info_parts Q0q;have EA:=qh (Q2d (t:=Qu) (x:=((wt,wa),((1:Int),(c:Int)))) (Q6q BH.o.1 BH.o.2 (by unfold Qqm;omega) CK.o));clear A9 E5 E6;have EB:¬((j:Int)<C.length):=by omega
     go_wp2_with fail
     go_region_held3(λw'=>w'.cell? ⟨yb,yo+4,N⟩=R (A (R ⟨by_,oy,N⟩) J.length D5)/\w'.cell? ⟨by_,oy,N⟩=R (I Z wt)/\w'.cell? ⟨by_,oy+1,N⟩=R (I Z wa))
      (first|with_reducible exact Q9c A2.o y4 g0 g1|with_reducible exact Q9c (A2.o.alloc A2.o.size _) y4 g0 g1|(refine Q9c (w:=wr) ?_ y4 g0 g1;go_grown))
      ((go_at_call 189;refine(Vj _ (c:Int)).mono ?_;rintro e w5 ⟨rfl,k⟩;have A2:D (Below wr.heap.size wr w5):=qh (Q0 (by go_grown) k);clear k))
     go_wp2_with fail
     go_ret;have EC:=p.o.mem.lt;have CL:=A2.o.size;refine⟨_,S',l',rfl, ?_, ?_⟩
     ·rw[AK.o];exact p.o.below (A2.o.alloc A2.o.size _)
     ·rw[AK.o]
      exact Y9.ofOwn (B:=w5.heap.size) (Qqe.of_block (t:=Qu) (xs:=[((wt,wa),((1:Int),(c:Int)))]) (Bg w5 _) (Aj _) rfl rfl EA.o (by simp[Bp])) (Au p.o.fr.size CL) (λb n=>Ap (EC b (Aa _ n)) CL)
    ·have E9:((H.length:Int)==0)=false:=by rw[beq_eq_false_iff_ne];omega
     have AK:D (Vy m (V,d,M,f,C) (U,E,g,G,J)=(Yu ((Bz H.length).foldl (Yw (V,d,M,f,C) (U,E,g,G,J) H) mA) c (H.getD 0 0),[])):=qh (by rw[CG.o,if_neg (by simp only;omega)]);have EB:¬((j:Int)<C.length):=by omega
     have AA:(mX mA).length<=1000000:=by have h1:mX mA=mX P:=E3.o;rw[h1];exact DM.o
     have ED:=qh AA;have CM:(mC mA).length=(mC P).length:=E4.o;have AZ:=qh CM;clear AA CM y4 g0 g1;have A9:0<H.length:=by omega
     go_wp2_with fail
     clear x4;go_loopw [11] (λi K=>∃(q:Nat) (L:MS),q<=H.length/\i=I Z q/\D (Qk w S pb po K ((Bz q).foldl (Yw (V,d,M,f,C) (U,E,g,G,J) H) mA) L l')/\D (Yy .int w L K (A pa H.length ca) H)) (λi _=>H.length-(intOf i).toNat);case atStart=>exact⟨0,S',Ak _,rfl,p.o,HA.o⟩
     case round=>
      rename World=>K
      obtain⟨q,L,hq,rfl,A5,AF⟩:=hrel;clear p HA;have B0:D ((mC ((Bz q).foldl (Yw (V,d,M,f,C) (U,E,g,G,J) H) mA)).length=(mC mA).length):=qh (Q8a _ _ _ _ _);have EE:D (mX ((Bz q).foldl (Yw (V,d,M,f,C) (U,E,g,G,J) H) mA)=mX mA):=qh (Q84 _ _ _ _ _);by_cases AL:q<H.length
      ·have CN:D ((Bz (q+1)).foldl (Yw (V,d,M,f,C) (U,E,g,G,J) H) mA=Yw (V,d,M,f,C) (U,E,g,G,J) H ((Bz q).foldl (Yw (V,d,M,f,C) (U,E,g,G,J) H) mA) q):=qh (by rw[List.range_succ,List.foldl_append];rfl)
       generalize (Bz q).foldl (Yw (V,d,M,f,C) (U,E,g,G,J) H) mA=mq at *
       obtain⟨s,CO,FT,CP⟩:=AJ.o H[q] (As AL);have B1:D (H.getD q 0=(s:Int)):=qh (by rw[Ab,Ad AL,<-CO];rfl);obtain⟨A6,AM,BI,hE⟩:=Rd.elem AF.o.rd q AL;obtain⟨z0,AB⟩:=At.int hE;rw[CO]at z0 AB;simp only[Ty.sz,Cb]at z0;subst BI;have B2:q<C.length:=by omega
       obtain⟨bx,ox,BJ,CQ⟩:=Rd.elem (AT.o _ A5.o.fr).2.2 q B2;have EF:D (C.getD q (0,0)=(C[q].1,C[q].2)):=qh (by rw[Ab,Ad B2];rfl);obtain⟨f0,f1,CR,CS⟩:=At.word (t:=C[q].1) (a:=C[q].2) CQ;simp only[Ty.sz,Bj]at f0 f1;have B3:=qh (And.intro CR CS);obtain⟨⟨-,-,-,-,x4⟩,-,-⟩:=AT.o _ A5.o.fr;rw[BJ]at x4;generalize C[q].1=xt at *
       generalize C[q].2=xa at *
       obtain⟨⟨-,-,-,-,y4⟩,-,A8⟩:=A7.o _ A5.o.fr;rw[E7.o]at y4 A8;obtain⟨FU,FV,CT,BK⟩:=Rd.elem A8 0 B6;simp only[Bu,Ck,and_true]at CT;obtain⟨rfl,rfl⟩:=CT;rw[E8.o]at BK;obtain⟨g0,g1,-,-⟩:=BK.word;simp only[Ty.sz,Bj,Db,Cq]at g0 g1;have CA:=qh AB;have CU:D (A6≠L.cb):=qh (by obtain⟨Fq,oq,FW,rq⟩:=AF.o;have n:=oq.block0 rfl (by intro e;rw[e]at AL;simp at AL);exact λe=>(rq _ n).2 (Q19 e));have CV:D (bx≠L.cb):=qh (by rw[A5.o.cb];exact B9.o.2 bx ox BJ (by intro e;rw[e]at B2;simp at B2));clear BJ;have FX:=A5.o.fr.size;have FY:(0:Int)<=q:=by omega
       have FZ:(q:Int)<H.length:=by omega
       have G0:(q:Int)<C.length:=by omega
       clear hE CQ BK A8 AB CR CS;obtain⟨O,AA⟩:∃O:Wd,O=if q+1<H.length then((1:Int),H.getD (q+1) 0)else(wt,wa):=⟨_,rfl⟩;have CW:=qh AA;have B4:D (Qqm O.1/\Qqm O.2):=qh (by
        rw[AA];by_cases A3:q+1<H.length
        ·rw[if_pos A3]
         obtain⟨a1,e1,e2,_⟩:=AJ.o H[q+1] (As A3);refine⟨show Qqm 1 by unfold Qqm;omega, ?_⟩;simp only[List.getD_eq_getElem?_getD,List.getElem?_eq_getElem A3];have:=BC.o;show Qqm (H[q+1]);unfold Qqm;omega
        ·rw[if_neg A3];exact BH.o)
       have CX:D (Q1t (V,d,M,f,C) (U,E,g,G,J) H q=[(xt,xa),O]):=qh (by unfold Q1t;simp only[aW];rw[EF.o,HG.o,AA]);clear AA;by_cases A3:q+1<H.length
       ·have EG:(q:Int)+1<H.length:=by omega
        have G1:(0:Int)<=(q:Int)+1:=by omega
        have EH:D (((q:Int)+1).toNat=q+1):=qh (by omega);obtain⟨G2,G3,CY,hE⟩:=Rd.elem AF.o.rd (q+1) A3;simp only[Bu,Ck,and_true]at CY;obtain⟨rfl,rfl⟩:=CY;obtain⟨zz,-⟩:=At.int hE;simp only[Ty.sz,Cb]at zz;have AN:D (O=((1:Int),H[q+1])):=qh (by rw[CW.o,if_pos A3,Ab,Ad A3];rfl);generalize H[q+1]=zq at *
        clear hE;go_upto_region 18 with fail
        have B5:D (Below K.heap.size K (K.alloc (.cells #[I Z wt,I Z wa] 40))):=qh (by go_grown);have EI:(K.alloc (.cells #[I Z wt,I Z wa] 40)).cell? ⟨A6,AM+(q+1),N⟩=R (I Z zq):=(Am B5.o).cell _ _ zz;have EJ:(K.alloc (.cells #[I Z wt,I Z wa] 40)).cell? ⟨A6,AM+((q:Int)+1).toNat,N⟩=R (I Z zq):=by rw[EH.o];exact(Am B5.o).cell _ _ zz
        have CZ:=qh (Bg K (.cells #[I Z wt,I Z wa] 40));have EK:K.heap.size<(K.alloc (.cells #[I Z wt,I Z wa] 40)).heap.size:=by simp
        generalize K.alloc (.cells #[I Z wt,I Z wa] 40)=Wb at *
        clear zz;go_wp2_with((go_at_call 189;refine(Vj _ zq).mono ?_;rintro e w5 ⟨rfl,k⟩;have A2:=qh k;have BL:=Qe CZ.o k;obtain⟨⟨b0,b1⟩,bf⟩:=Za BL;have D0:=qh BL;clear k BL))
        have BM:D (((w5.setCell ⟨K.heap.size,0,N⟩ (I Z 1)).setCell ⟨K.heap.size,1,N⟩ (I Z zq)).heap[K.heap.size]?=R (.cells #[I Z O.1,I Z O.2] 40 (0,0))):=qh (by rw[AN.o];exact Vm D0.o _ _);have A0:D (Below K.heap.size K ((w5.setCell ⟨K.heap.size,0,N⟩ (I Z 1)).setCell ⟨K.heap.size,1,N⟩ (I Z zq))):=qh (Qbf (Q0 B5.o A2.o) (Aj _) _ _);clear b0 b1 bf EJ EI D0 A2 B5 CZ EK AN;generalize (w5.setCell ⟨K.heap.size,0,N⟩ (I Z 1)).setCell ⟨K.heap.size,1,N⟩ (I Z zq)=W at *
        have r:=qh (A5.o.below A0.o);have z0:=(Am A0.o).cell _ _ z0;have f0:=(Am A0.o).cell _ _ f0;have f1:=(Am A0.o).cell _ _ f1;have x4:=(Am A0.o).cell _ _ x4;have EL:=A0.o.size;obtain⟨⟨b0,b1⟩,-⟩:=Za BM.o;obtain⟨pf,cf,BN,EM,EN,BO,BP,AO,AP⟩:=r.o.focusN (i:=s) (by have h1:=B0.o;have h2:=AZ.o;omega) CP;have BQ:=qh AP;have EO:=qh AO;clear BO BP AO AP;obtain⟨_,_,c0,-,-,-,-,-,-,-,-⟩:=r.o.mem.head;have AQ:=r.o.mem.cells.bound;unfold Bp at AQ;obtain⟨EP,EQ⟩:=AQ;obtain⟨BR,ER⟩:=r.o.mem.ne;have ES:=λq=>r.o.mem.cells.blk.free q;have ET:=r.o.mem.blk.lt;have BS:=r.o.mem.cells.blk.lt;have EU:L.cb<w.heap.size:=by rw[r.o.cb];exact AU.o.2
        have AR:K.heap.size≠L.cb:=by omega
        have BT:A6≠L.cb:=CU.o;have BU:xb≠L.cb:=by rw[r.o.cb];exact B9.o.1
        have AS:bx≠L.cb:=CV.o;have EV:(0:Int)<=s:=by omega
        have EW:(s:Int)<(mC mq).length:=by have h1:=B0.o;have h2:=AZ.o;omega
        have BV:=qh (Qk7 (X:=λc=>c=L.cb) (((Ze W L.cb (L.o+s * 5+4) (A (R ⟨W.heap.size,0,N⟩) 2 2)).alloc (.cells #[I Z xt,I Z xa,I Z O.1,I Z O.2] 40)).drew) c0 z0 x4 f0 f1 b0 b1 BR BT BU AS AS AR AR)
        go_region_held3(λw'=>w'.cell? ⟨pb,po,N⟩=R (A (R ⟨L.cb,L.o,N⟩) (mC mq).length L.cap)/\w'.cell? ⟨A6,AM+q,N⟩=R (I Z s)/\w'.cell? ⟨xb,xo+4,N⟩=R (A (R ⟨bx,ox,N⟩) C.length BZ)/\w'.cell? ⟨bx,ox+q * 2,N⟩=R (I Z xt)/\w'.cell? ⟨bx,ox+q * 2+1,N⟩=R (I Z xa)/\w'.cell? ⟨K.heap.size,0,N⟩=R (I Z O.1)/\w'.cell? ⟨K.heap.size,1,N⟩=R (I Z O.2))
         (first|exact BV.o|(refine Qop (w:=W) ?_ c0 z0 x4 f0 f1 b0 b1;go_grown))
         (first|fail)
        go_wp2_with fail
        have AC:=BQ.o (W.alloc (.cells #[I Z xt,I Z xa,I Z O.1,I Z O.2] 40)) (R ⟨W.heap.size,0,N⟩) 2 2 [(xt,xa),(O.1,O.2)] [W.heap.size] ((Q1.refl _ _).alloc _) (Q8w (Bg W _) B3.o.1 B3.o.2 B4.o.1 B4.o.2) rfl (by simp) (λb k=> .inr (by simp at k;omega));rw[World.setCell_alloc_past _ _ _ _ BS]at AC;go_roundw;case rel=>exact⟨q+1,L.put (s:Int) (BN++ [W.heap.size]),by omega,by go_num,(show Qk _ _ _ _ _ _ _ _ by rw[CN.o];unfold Yw;rw[B1.o,CX.o];exact AC.1.drew),(show Yy _ _ _ _ _ _ from(AF.o.step (X:=λ_=>False) (Ay A0.o) (λ_ h=>h.elim) (λb h=> .inl h)).step (((Ze W L.cb (L.o+s * 5+4) (A (R ⟨W.heap.size,0,N⟩) 2 2)).alloc (.cells #[I Z xt,I Z xa,I Z O.1,I Z O.2] 40)).drew) (λc hc=> .inr (Q19 hc)) AC.2.1.2.2.2)⟩
        case measure=>simp[intOf];omega
       ·have EG:¬((q:Int)+1<H.length):=by omega
        have AN:D (O=(wt,wa)):=qh (by rw[CW.o,if_neg A3]);go_wp2_with fail
        have BM:D ((K.alloc (.cells #[I Z wt,I Z wa] 40)).heap[K.heap.size]?=R (.cells #[I Z O.1,I Z O.2] 40 (0,0))):=qh (by rw[AN.o];exact Bg K _);have A0:D (Below K.heap.size K (K.alloc (.cells #[I Z wt,I Z wa] 40))):=qh (by go_grown);clear AN;generalize K.alloc (.cells #[I Z wt,I Z wa] 40)=W at *
        have r:=qh (A5.o.below A0.o);have z0:=(Am A0.o).cell _ _ z0;have f0:=(Am A0.o).cell _ _ f0;have f1:=(Am A0.o).cell _ _ f1;have x4:=(Am A0.o).cell _ _ x4;have EL:=A0.o.size;obtain⟨⟨b0,b1⟩,-⟩:=Za BM.o;obtain⟨pf,cf,BN,EM,EN,BO,BP,AO,AP⟩:=r.o.focusN (i:=s) (by have h1:=B0.o;have h2:=AZ.o;omega) CP;have BQ:=qh AP;have EO:=qh AO;clear BO BP AO AP;obtain⟨_,_,c0,-,-,-,-,-,-,-,-⟩:=r.o.mem.head;have AQ:=r.o.mem.cells.bound;unfold Bp at AQ;obtain⟨EP,EQ⟩:=AQ;obtain⟨BR,ER⟩:=r.o.mem.ne;have ES:=λq=>r.o.mem.cells.blk.free q;have ET:=r.o.mem.blk.lt;have BS:=r.o.mem.cells.blk.lt;have EU:L.cb<w.heap.size:=by rw[r.o.cb];exact AU.o.2
        have AR:K.heap.size≠L.cb:=by omega
        have BT:A6≠L.cb:=CU.o;have BU:xb≠L.cb:=by rw[r.o.cb];exact B9.o.1
        have AS:bx≠L.cb:=CV.o;have EV:(0:Int)<=s:=by omega
        have EW:(s:Int)<(mC mq).length:=by have h1:=B0.o;have h2:=AZ.o;omega
        have BV:=qh (Qk7 (X:=λc=>c=L.cb) (((Ze W L.cb (L.o+s * 5+4) (A (R ⟨W.heap.size,0,N⟩) 2 2)).alloc (.cells #[I Z xt,I Z xa,I Z O.1,I Z O.2] 40)).drew) c0 z0 x4 f0 f1 b0 b1 BR BT BU AS AS AR AR)
        go_region_held3(λw'=>w'.cell? ⟨pb,po,N⟩=R (A (R ⟨L.cb,L.o,N⟩) (mC mq).length L.cap)/\w'.cell? ⟨A6,AM+q,N⟩=R (I Z s)/\w'.cell? ⟨xb,xo+4,N⟩=R (A (R ⟨bx,ox,N⟩) C.length BZ)/\w'.cell? ⟨bx,ox+q * 2,N⟩=R (I Z xt)/\w'.cell? ⟨bx,ox+q * 2+1,N⟩=R (I Z xa)/\w'.cell? ⟨K.heap.size,0,N⟩=R (I Z O.1)/\w'.cell? ⟨K.heap.size,1,N⟩=R (I Z O.2))
         (first|exact BV.o|(refine Qop (w:=W) ?_ c0 z0 x4 f0 f1 b0 b1;go_grown))
         (first|fail)
        go_wp2_with fail
        have AC:=BQ.o (W.alloc (.cells #[I Z xt,I Z xa,I Z O.1,I Z O.2] 40)) (R ⟨W.heap.size,0,N⟩) 2 2 [(xt,xa),(O.1,O.2)] [W.heap.size] ((Q1.refl _ _).alloc _) (Q8w (Bg W _) B3.o.1 B3.o.2 B4.o.1 B4.o.2) rfl (by simp) (λb k=> .inr (by simp at k;omega));rw[World.setCell_alloc_past _ _ _ _ BS]at AC;go_roundw;case rel=>exact⟨q+1,L.put (s:Int) (BN++ [W.heap.size]),by omega,by go_num,(show Qk _ _ _ _ _ _ _ _ by rw[CN.o];unfold Yw;rw[B1.o,CX.o];exact AC.1.drew),(show Yy _ _ _ _ _ _ from(AF.o.step (X:=λ_=>False) (Ay A0.o) (λ_ h=>h.elim) (λb h=> .inl h)).step (((Ze W L.cb (L.o+s * 5+4) (A (R ⟨W.heap.size,0,N⟩) 2 2)).alloc (.cells #[I Z xt,I Z xa,I Z O.1,I Z O.2] 40)).drew) (λc hc=> .inr (Q19 hc)) AC.2.1.2.2.2)⟩
        case measure=>simp[intOf];omega
      ·have D1:q=H.length:=by omega
       have EX:=qh D1;clear D1;obtain⟨a0,D2,G4,-⟩:=AJ.o H[0] (As A9);obtain⟨A6,AM,BI,hE⟩:=Rd.elem AF.o.rd 0 A9;obtain⟨z0,AB⟩:=At.int hE;rw[D2]at z0 AB;simp only[Ty.sz,Cb,Cq]at z0;have B1:D (H.getD 0 0=(a0:Int)):=qh (by rw[Ab,Ad A9,<-D2];rfl);subst BI;have EY:=qh AB;have G5:(0:Int)<H.length:=by omega
       clear hE AB;go_wp2_with((go_at_call 190;refine(Qcm A5.o (c:Int) (a0:Int) CK.o EY.o (by rw[EE.o];exact ED.o)).mono ?_;rintro e w9 ⟨rfl,S9,hs,EZ,hf⟩;have BW:=qh hs;clear hs EZ hf))
       go_ret;refine⟨_,S9,l',rfl, ?_, ?_⟩
       ·rw[AK.o]
        show Qk _ _ _ _ _ (Yu _ _ _) _ _;rw[B1.o,<-EX.o];exact BW.o.below (by go_grown)
       ·rw[AK.o]
        exact Y9.ofOwn (Vv (t:=Qu) (T:=120) w9 w9.heap.size rfl rfl) BW.o.fr.size (λb n=>BW.o.mem.lt b (Aa _ n))
end Go.Proofs.YthbpkpnioaniiaaGreat
