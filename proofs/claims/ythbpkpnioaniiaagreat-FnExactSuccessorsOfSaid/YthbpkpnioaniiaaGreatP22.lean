import Derived.Test.YthbpkpnioaniiaaGreatP19
import Derived.Test.YthbpkpnioaniiaaGreatP21
set_option maxHeartbeats 40000000
set_option maxRecDepth 100000
set_option linter.all false
namespace Go.Proofs.YthbpkpnioaniiaaGreat
open Go.RowKit Go.Proofs.Tryz
open Go.Value renaming int->I,slice->A
open Go.IntKind renaming i64->Z
open Option renaming none->N,some->R
open Go renaming World->Bh,heap_alloc_new->Bg,Addr->Cm
open Nat renaming zero_add->Cd,reduceAdd->Bj,le_of_lt->Ep,mul_one->Cb,add_zero->Cq
theorem Qb1:(prog.info? 232).map (λi=>(i.zero,i.size,i.bytes))=R (R (Value.agg #[I Z 0,I Z 0,I Z 0,I Z 0]),4,32):=by kernel_rfl
theorem Q49.arg{w:Bh}{T:TypeId}{x:Qb}{B C E F H:Value}{G:List Nat}(h:Ow Q3 w [B,C,E,F,H] x G):Q49 Q3 (w.alloc (.cells #[B,C,E,F,H] T)) w.heap.size 0 x G:=
 ⟨_,rfl,Q11 (Q8 (Bg w _) rfl) (Q8 (Bg w _) rfl) (Q8 (Bg w _) rfl) (Q8 (Bg w _) rfl) (Q8 (Bg w _) rfl),h.kept λb J=>Az _ _ _ (h.lt b J),by simp⟩
theorem Yy.empty{e:Ty}{B:Bh}{S:MS}{w:Bh}:Yy e B S w (A N 0 0) []:=⟨[],Ow.nil w,by simp,by simp⟩
theorem Qme(w:Bh)(g:Nat)(m:Qqp)(S:MS)(l:List Nat)(h:Z8 w g 0 m S)(hl:Yf m l)(k p v:Int)(d:List Int)(ws:List Wd)(pd pw:Option Cm)(cd cw:Nat)(G:List Nat)(ho:Ow Q3 w [I Z k,I Z p,I Z v,A pd d.length cd,A pw ws.length cw] (k,p,v,d,ws) G)(hG:∀c∈G,c∉g::S.all)(BN:ws.length<=l.length)(BO:ws.length<=1000)(hC:(mC m).length<=1000000):
  Calls prog 212 #[.pointer (R ⟨g,0,N⟩),.agg #[I Z k,I Z p,I Z v,A pd d.length cd,A pw ws.length cw]] w λe w'=>∃v' S' J,e=.returned v'/\Qk w S g 0 w' (ws.foldl Yn (m,[])).1 S' J/\Yy Qu w S' w' v' (ws.foldl Yn (m,[])).2:=by
 have A0:=qh (Qk.start h hl);have O:=qh ho;have A8:=qh h.lt;have HG:=qh hG;have BP:g<w.heap.size:=h.blk.lt;clear h hl ho hG;go_enter func212,ntmps212;go_upto_region 2 with fail
 refine Qq ?_;intro W s;have x:D (Below w.heap.size w W):=qh (by rw[s];go_grown);have AV:D (Q49 Q3 W w.heap.size 0 (k,p,v,d,ws) G):=qh (by rw[s];exact Q49.arg O.o);have AW:D (Q8i (w.heap.size::G) g S):=qh (λc B=>by
  rcases Aq.1 B with rfl|B
  ·exact λK=>by have:=A8.o _ K;omega
  ·exact HG.o c B)
 have AX:=qh (Qk.start (A0.o.below x.o).mem (A0.o.below x.o).free);obtain⟨_,_,BQ,BR,-,-,AY,A1⟩:=AV.o.facts AW.o;unfold maxLen at AY;have AZ:=qh A1;obtain⟨⟨-,-,-,-,y4⟩,-,-⟩:=A1 W (Q1.refl _ _);simp only[Cd]at y4;have BS:W.heap.size=w.heap.size+1:=by rw[s];simp
 obtain⟨i0,B0,B1,B2,B3⟩:=info_parts Qb1;have A2:D (Qqm 5/\Qqm 0):=qh (by unfold Qqm;omega);have B4:D (∀V:Bh,Ow Q3 V [I Z 5,I Z 0,I Z 0,A N 0 0,A N 0 0] (5,0,0,[],[]) []):=qh (λV=>Ow.mkAgent A2.o.1 A2.o.2 A2.o.2 (Ow.nil _) (Ow.nil _));have B5:D (∀c∈g::S.all,c<w.heap.size):=qh (A8.o);clear s A1;go_wp2_with fail
 go_loopw [5,11] (λu i wr=>∃(j:Nat) (S':MS) (J:List Nat),j<=ws.length/\i=I Z j/\D (Qk W S g 0 wr ((ws.take j).foldl Yn (m,[])).1 S' J)/\D (Yy Qu W S' wr u ((ws.take j).foldl Yn (m,[])).2)/\D (ws.length<=J.length+j)/\D (((ws.take j).foldl Yn (m,[])).2.length=j)/\D ((mC ((ws.take j).foldl Yn (m,[])).1).length=(mC m).length)) (λ_ i _=>ws.length-(intOf i).toNat);case atStart=>exact⟨0,S,l,Ak _,rfl,AX.o,Yy.empty,(show _<=_ by omega),rfl,rfl⟩
 case round=>
  obtain⟨j,S',J,hj,rfl,E,O,A9,AA,AB⟩:=hrel;have BT:=E.o.fr.size;by_cases AC:j<ws.length
  ·obtain⟨e,l2,rfl⟩:∃e l2,J=e::l2:=by
    match J,(show 0<J.length by have:=A9.o;omega)with
    |e::l2,_=>exact⟨e,l2,rfl⟩
   have z:D ((ws.take (j+1)).foldl Yn (m,[])=Yn ((ws.take j).foldl Yn (m,[])) ws[j]):=qh (by rw[An AC,List.foldl_append];rfl);generalize (ws.take j).foldl Yn (m,[])=Fj at *
   obtain⟨P,T⟩:=Fj;have E:D (Qk W S g 0 wr P S' (e::l2)):=qh (E.o);obtain⟨-,-,AD⟩:=AZ.o _ E.o.fr;obtain⟨by_,BU,rfl,hE⟩:=Rd.elem AD j AC;have B6:D (ws[j]=(ws[j].1,ws[j].2)):=qh (rfl);obtain⟨f0,f1,AE,AF⟩:=At.word (t:=ws[j].1) (a:=ws[j].2) hE;generalize ws[j].1=wt at *
   generalize ws[j].2=wa at *
   simp only[Ty.sz,Bj]at f0 f1;have AG:=qh (And.intro AE AF);clear hE AD AE AF;obtain⟨pu,cu,rfl⟩:=O.o.form;obtain⟨Fo,AH⟩:=O.o;have C:=qh AH;have AI:D (mF P=(e:Int)/\e<(mC P).length):=qh (⟨(E.o.first Z5).1,(E.o.first Z5).2.1⟩);have B7:D (Qqm (e:Int)):=qh (by have h1:=AI.o.2;have h2:(mC P).length=(mC m).length:=AB.o;unfold Qqm;omega);have BV:(0:Int)<=j:=by omega
   have BW:(j:Int)<ws.length:=by omega
   have A3:D (∀q∈(S'.put (e:Int) []).all,q∈S'.all):=qh (λq K=>(Zf K).elim (λh=>by simp at h) id);have B8:=qh E.o.mem.lt;have AJ:D (∀q∈([]:List Nat),W.heap.size<=q/\q∉g::S'.all):=qh (by simp);clear AH;go_upto_region 5 with fail
   refine Qq ?_;intro U A4;have AK:D (Below wr.heap.size wr U):=qh (by rw[A4];go_grown);have A5:U.heap[wr.heap.size]?=R (.cells #[I Z wt,I Z wa] 40 (0,0)):=by rw[A4];exact Bg wr _
   obtain⟨⟨k0,k1⟩,-⟩:=Za A5;have A6:wr.heap.size<U.heap.size:=Zb A5;have B9:=qh (E.o.below AK.o);have AL:D (S.cb<w.heap.size):=qh (B5.o _ (Aa _ Ae));have BA:D (∀V,Q1 (λc=>c=g\/c=S.cb\/c∈Fo) U V->V.cell? ⟨wr.heap.size,0,N⟩=R (I Z wt)/\V.cell? ⟨wr.heap.size,1,N⟩=R (I Z wa)):=qh (λV f=>by
    have AM:¬(wr.heap.size=g\/wr.heap.size=S.cb\/wr.heap.size∈Fo):=by
     rintro(e|e|e)
     ·omega
     ·have:=AL.o;omega
     ·have:=C.o.1.lt _ e;omega
    exact⟨(f.cell A6 AM _).trans k0,(f.cell A6 AM _).trans k1⟩)
   clear A4 A5 f0 f1
   go_region_held3(λV=>V.cell? ⟨wr.heap.size,0,N⟩=R (I Z wt)/\V.cell? ⟨wr.heap.size,1,N⟩=R (I Z wa))
    (((with_reducible refine BA.o _ ?_);(first|with_reducible exact BB.o|with_reducible exact AN.o|with_reducible exact AO.o|with_reducible exact AP.o|with_reducible exact(Q1.refl _ _).drew|fail)))
    (first
     |((go_at_call 242;(with_reducible refine(Q4k B9.o.drew 5 0 0 N N 0 0 0 0 (5,0,0,[],[]) [] (B4.o _) List.nodup_nil (λq H=>(AJ.o q H).2) (λq H=>(AJ.o q H).1)).mono ?_);rintro X w8 ⟨rfl,hs,f⟩;have BC:=qh hs;have AQ:=qh (Q1.trans (show Q1 (λc=>c=g\/c=S.cb) U _ from(Q1.refl _ U).drew) f);have AP:=qh (AQ.o.mono (Y:=λc=>c=g\/c=S.cb\/c∈Fo) λc B=>B.elim .inl λh=> .inr (.inl h));clear hs f))
     |((go_at_call 246;(with_reducible refine(Q01 _ (e:Int)).mono ?_);rintro X L ⟨rfl,M⟩;have BD:=qh (BC.o.below M);have AR:=qh (Q1.trans AQ.o (Ay M));have AO:=qh (Q1.trans AP.o (Ay M));have BE:=qh (BD.o.below (show Below L.heap.size L (L.alloc (.cells #[I Z wt,I Z wa,I Z 1,I Z e] 232))from(Ai _ _).alloc (Aj _) _));have AN:=qh (AO.o.alloc (.cells #[I Z wt,I Z wa,I Z 1,I Z e] 232));have BF:=AR.o.size;clear M))
     |((refine Y6 _ rfl (.tmp 15) (.tmp 24) 228 rfl (e:=Qu) 232 i0 _ 32 underlying228 B0 B1 B2 B3 rfl (by decide) (v:=A pu T.length cu) (xs:=T) (y:=((wt,wa),((1:Int),(e:Int)))) (vs:=[I Z wt,I Z wa,I Z 1,I Z e]) (F:=Fo) L.heap.size 1 rfl rfl ((C.o.1.frame (Q1.trans (Ay AK.o) AR.o) (λq H=>⟨C.o.1.lt q H,λX=>by have h1:=(C.o.2.2 q H).1;have:=AL.o;omega⟩)).kept λq H=>Az _ _ _ (Ap (Ap (C.o.1.lt q H) (Ep A6)) BF)) C.o.2.1 (Ow.link AG.o.1 AG.o.2 (by unfold Qqm;omega) B7.o) (Q81 (Q8 (Bg L _) rfl) (Q8 (Bg L _) rfl) (Q8 (Bg L _) rfl) (Q8 (Bg L _) rfl)) Qi2 (by have h9:T.length=j:=AA.o;omega) ?_;intro BX BY BZ BG AS AT AU A7;have BH:=qh AS;have BI:=qh AT;have BJ:=qh AU;have BK:=qh (BE.o.other A7 (λc B=>⟨λK=>(Aq.1 K).elim (λX=>by have:=(C.o.2.2 c B).1;omega) (λh=>(C.o.2.2 c B).2 (A3.o c h)),(C.o.2.2 c B).1⟩));have BB:=qh (AN.o.trans (A7.mono λc B=> .inr (.inr B)));clear AS AT AU A7))
     |fail)
   all_goals
    go_wp2_with fail
    go_roundw;case rel=>exact⟨j+1,S'.put (e:Int) [],l2,by omega,by go_num,(show Qk _ _ _ _ _ _ _ _ by rw[z.o];exact BK.o),(show Yy _ _ _ _ _ _ by rw[z.o,B6.o];show Yy Qu _ _ _ _ (T++ [((wt,wa),((1:Int),mF P))]);rw[AI.o.1];exact⟨BG,BH.o,BI.o,λq H=>(BJ.o q H).elim (λh=>⟨(C.o.2.2 q h).1,λK=>(C.o.2.2 q h).2 (A3.o q K)⟩) (λX=>⟨by rw[X];simp;omega,λK=>by have:=B8.o q (Aa _ (A3.o q K));rw[X]at this;simp at this;omega⟩)⟩),(show _<=_ by have:=A9.o;simp only[List.length_cons]at this;omega),(show _=_ by rw[z.o];show(T++ [_]).length=j+1;rw[List.length_append];have h9:T.length=j:=AA.o;rw[h9];rfl),(show _=_ by rw[z.o];show(mC (Qj P _)).length=_;rw[Qd];exact AB.o)⟩
    case measure=>simp[intOf];omega
  ·have BL:ws.length<=j:=by omega
   have BM:D (ws.take j=ws):=qh (Ao BL);go_wp2_with fail
   go_ret;rw[BM.o]at E O;refine⟨_,S',J,rfl,Qk.trans (A0.o.below x.o) E.o, ?_⟩;obtain⟨F,o,n,r⟩:=O.o;exact⟨F,o,n,λb M=>⟨Au x.o.size (r b M).1,(r b M).2⟩⟩
theorem Qgj{w:Bh}{g:Nat}{T:TypeId}{a b c d:Int}(h:w.heap[g]?=R (.cells #[I Z a,I Z b,I Z c,I Z d] T (0,0)))(B:Qqm a)(C:Qqm b)(E:Qqm c)(F:Qqm d):Ow (.slice Qu) w [A (R ⟨g,0,N⟩) 1 1] [((a,b),(c,d))] [g]:=
 ⟨_,rfl,.inr ⟨g,0,1,_,T,[[]],rfl,Aj _,by simp[maxLen],h,by simp[Ty.sz],by simp,rfl,λi G=>by
  match i,G with
  |0,_=>exact Ow.link B C E F⟩⟩
theorem Q7u{ws:List Wd}{i:Nat}(h:i<ws.length):ws.getD i (0,0)=(ws[i].1,ws[i].2):=by rw[Ab,Ad h];rfl
theorem Qmp(w:Bh)(g:Nat)(m:Qqp)(S:MS)(e:Nat)(l:List Nat)(h:Z8 w g 0 m S)(hl:Yf m (e::l))(P U F:Int)(Y:List Int)(d:List Wd)(px qx:Option Cm)(cx ex:Nat)(Gx:List Nat)(AR:Ow Q3 w [I Z P,I Z U,I Z F,A px Y.length cx,A qx d.length ex] (P,U,F,Y,d) Gx)(AS:∀c∈Gx,c∉g::S.all)
  (ky H E:Int) (J:List Int) (C:List Wd) (py qy:Option Cm) (cy ey:Nat) (Gy:List Nat) (AT:Ow Q3 w [I Z ky,I Z H,I Z E,A py J.length cy,A qy C.length ey] (ky,H,E,J,C) Gy) (AU:∀c∈Gy,c∉g::S.all)
  (hk:ky=7/\2<=C.length\/ky=8/\0<J.length/\0<C.length) (hC:(mC m).length<=1000000):
  Calls prog 213 #[.pointer (R ⟨g,0,N⟩),.agg #[I Z P,I Z U,I Z F,A px Y.length cx,A qx d.length ex],.agg #[I Z ky,I Z H,I Z E,A py J.length cy,A qy C.length ey]] w λe w'=>∃v' S' l',e=.returned v'/\Qk w S g 0 w' (Q4r m (P,U,F,Y,d) (ky,H,E,J,C)).1 S' l'/\Yy Qu w S' w' v' (Q4r m (P,U,F,Y,d) (ky,H,E,J,C)).2:=by
 have BM:=qh (Qk.start h hl);have BN:=qh AR;have AV:=qh AT;have AW:=qh h.lt;have BO:=qh AS;have BP:=qh AU;have C7:g<w.heap.size:=h.blk.lt;have AK:0<C.length:=by omega
 clear h hl AR AT AS AU;go_enter func213,ntmps213;go_upto_region 1 with fail
 refine Qq ?_;intro B A6;have BQ:D (Below w.heap.size w B):=qh (by rw[A6];go_grown);have BR:B.heap.size=w.heap.size+1+1:=by rw[A6];simp
 have BS:D (Q49 Q3 B w.heap.size 0 (P,U,F,Y,d) Gx):=qh (by rw[A6];exact(Q49.arg BN.o).frame (X:=λ_=>False) ((Q1.refl _ _).alloc _) (λ_ _ h=>h));have BT:D (Q49 Q3 B (w.heap.size+1) 0 (ky,H,E,J,C) Gy):=qh (by rw[A6];have:=Q49.arg (w:=w.alloc (.cells #[I Z P,I Z U,I Z F,A px Y.length cx,A qx d.length ex] 134)) (T:=134) (AV.o.frame (X:=λ_=>False) ((Q1.refl _ _).alloc _) (λb hb=>⟨AV.o.lt b hb,λh=>h⟩));simpa using this);have BU:D (Q8i (w.heap.size::Gx) g S):=qh (λc hc=>by
  rcases Aq.1 hc with rfl|hc
  ·exact λhm=>by have:=AW.o _ hm;omega
  ·exact BO.o c hc)
 have BV:D (Q8i ((w.heap.size+1)::Gy) g S):=qh (λc hc=>by
  rcases Aq.1 hc with rfl|hc
  ·exact λhm=>by have:=AW.o _ hm;omega
  ·exact BP.o c hc)
 obtain⟨C8,C9,CA,A7,iy,BW,BX,AX⟩:=BT.o.facts BV.o;obtain⟨_,_,_,_,ix,-,-,AY⟩:=BS.o.facts BU.o;have AD:=qh AX;have AZ:=qh AY;have AE:=qh iy;have B0:=qh ix;have A8:=qh (BM.o.below BQ.o);have CB:w.heap.size<B.heap.size:=by omega
 have CC:w.heap.size+1<B.heap.size:=by omega
 unfold maxLen at BW BX;clear AX AY iy ix A6 BR;rcases hk with⟨rfl,BY⟩|⟨rfl,AL,-⟩;case' inr=>
  have A1:D (Q4r m (P,U,F,Y,d) (8,H,E,J,C)=(Qj m (6,0,Jd E (J.getD 0 0) F,[],[]),[(C.getD 0 (0,0),((1:Int),mF m))])):=qh (rfl);obtain⟨⟨k0,k1,j,k3,-⟩,B1,-⟩:=AD.o _ (Q1.refl _ _);obtain⟨⟨-,-,x2,-,-⟩,-,-⟩:=AZ.o _ (Q1.refl _ _);obtain⟨bd,od,rfl,hD⟩:=Rd.elem B1 0 AL;obtain⟨d0,CD⟩:=At.int hD;simp only[Ty.sz,Cb,Cd,Cq]at d0 k0 k1 j k3 x2;have B2:D (J.getD 0 0=J[0]):=qh (by rw[Ab,Ad AL];rfl);have BZ:(0:Int)<J.length:=by omega
  generalize J[0]=dv at *
  clear hD B1;go_upto_region 4 with fail
  have K:D (Below B.heap.size B (B.alloc (.cells #[I Z 6,I Z 0,I Z 0,A N 0 0,A N 0 0] 134))):=qh (by go_grown);have L:=qh (Bg B (.cells #[I Z 6,I Z 0,I Z 0,A N 0 0,A N 0 0] 134));have A9:B.heap.size<(B.alloc (.cells #[I Z 6,I Z 0,I Z 0,A N 0 0,A N 0 0] 134)).heap.size:=by simp
  generalize B.alloc (.cells #[I Z 6,I Z 0,I Z 0,A N 0 0,A N 0 0] 134)=V at *
  have AA:bd≠B.heap.size:=by have:=Ac B _ d0;simp only at this;omega
  have j:=(Am K.o).cell _ _ j;have k3:=(Am K.o).cell _ _ k3;have x2:=(Am K.o).cell _ _ x2;have d0:=(Am K.o).cell _ _ d0;obtain⟨⟨r0,r1,r2,r3,r4⟩,rf⟩:=Y0 L.o;have A2:w.heap.size+1≠B.heap.size:=by omega
  have AF:w.heap.size≠B.heap.size:=by omega
  go_still_tail 8,(by kernel_rfl)
  go_wp2_with((go_at_call 251;(with_reducible refine(Qhj _ _ _ _).mono ?_);rintro e' w' ⟨rfl,rfl⟩))
  have B3:D (((V.setCell ⟨B.heap.size,2,N⟩ (I Z (Jd E dv F))).drew).heap[B.heap.size]?=R (.cells #[I Z 6,I Z 0,I Z (Jd E dv F),A N 0 0,A N 0 0] 134 (0,0))):=qh (Z2 L.o);have B4:=qh (K.o.setCell (p:=⟨B.heap.size,2,N⟩) (Aj _) (I Z (Jd E dv F))).drew;have B5:D (∀W:Bh,Ow Q3 W [I Z 6,I Z 0,I Z (Jd E dv F),A N 0 0,A N 0 0] (6,0,Jd E dv F,[],[]) []):=qh (λW=>Ow.mkAgent (by unfold Qqm;omega) (by unfold Qqm;omega) (Q93 _ _ _) (Ow.nil _) (Ow.nil _));have A3:D (Q4r m (P,U,F,Y,d) (8,H,E,J,C)=(Qj m (6,0,Jd E dv F,[],[]),[(C.getD 0 (0,0),((1:Int),mF m))])):=qh (by rw[A1.o,B2.o]);clear A1 B2 j k3 x2 d0 rf r0 r1 r2 r3 r4 k0 k1 A2 AF AA;generalize (V.setCell ⟨B.heap.size,2,N⟩ (I Z (Jd E dv F))).drew=M at *
  obtain⟨k,n,o,r,s,u,v,x,y,yc,O,AG,B6,B7,AH,A1⟩:∃(k n o:Int) (r:Option Cm) (s u:Nat) (v:Option Cm) (x y:Nat) (yc:Qb) (O:List Nat),D (M.heap[B.heap.size]?=R (.cells #[I Z k,I Z n,I Z o,A r s u,A v x y] 134 (0,0)))/\D (Below B.heap.size B M)/\D (Ow Q3 M [I Z k,I Z n,I Z o,A r s u,A v x y] yc O)/\D (O.Nodup/\∀q∈O,B.heap.size<q)/\D (Q4r m (P,U,F,Y,d) (8,H,E,J,C)=(Qj m yc,[(C.getD 0 (0,0),((1:Int),mF m))])):=⟨6,0,Jd E dv F,N,0,0,N,0,0,(6,0,Jd E dv F,[],[]),[],B3,B4,qh (B5.o _),qh ⟨List.nodup_nil,by simp⟩,A3⟩;clear K L A9 B3 B4 B5 A3 AL BZ
 case' inl=>
  have AM:1<C.length:=by omega
  have A3:D (Q4r m (P,U,F,Y,d) (7,H,E,J,C)=(Qj m (8,H,E,[F],[C.getD 1 (0,0)]),[(C.getD 0 (0,0),((1:Int),mF m))])):=qh (rfl);obtain⟨⟨k0,k1,j,-,z⟩,-,AI⟩:=AD.o _ (Q1.refl _ _);obtain⟨⟨-,-,x2,-,-⟩,-,-⟩:=AZ.o _ (Q1.refl _ _);obtain⟨bw,ow,B8,hE⟩:=Rd.elem AI 1 AM;obtain⟨e0,e1,B9⟩:=At.word (t:=C[1].1) (a:=C[1].2) hE;rw[B8]at z;simp only[Ty.sz,Bj,Cb,Nat.one_mul,Cd,Cq,Nat.add_assoc]at e0 e1 k0 k1 j z x2;have AN:=qh (Q7u AM);have C0:(1:Int)<C.length:=by omega
  have AB:=qh B9;generalize C[1].1=zt at *
  generalize C[1].2=za at *
  clear B8 hE AI B9;go_upto_region 3 with fail
  have K:D (Below B.heap.size B (B.alloc (.cells #[I Z 6,I Z 0,I Z 0,A N 0 0,A N 0 0] 134))):=qh (by go_grown);have L:=qh (Bg B (.cells #[I Z 6,I Z 0,I Z 0,A N 0 0,A N 0 0] 134));have A9:B.heap.size<(B.alloc (.cells #[I Z 6,I Z 0,I Z 0,A N 0 0,A N 0 0] 134)).heap.size:=by simp
  generalize B.alloc (.cells #[I Z 6,I Z 0,I Z 0,A N 0 0,A N 0 0] 134)=V at *
  have AA:bw≠B.heap.size:=by have:=Ac B _ e0;simp only at this;omega
  have k1:=(Am K.o).cell _ _ k1;have j:=(Am K.o).cell _ _ j;have z:=(Am K.o).cell _ _ z;have x2:=(Am K.o).cell _ _ x2;have e0:=(Am K.o).cell _ _ e0;have e1:=(Am K.o).cell _ _ e1;obtain⟨⟨r0,r1,r2,r3,r4⟩,rf⟩:=Y0 L.o;have l1:=Ac V _ k1;have l2:=Ac V _ x2;have l3:=Ac V _ e0;have A2:w.heap.size+1≠B.heap.size:=by omega
  have AF:w.heap.size≠B.heap.size:=by omega
  have BA:D (∀W,Q1 (λc=>c=B.heap.size) V W->W.cell? ⟨w.heap.size+1,1,N⟩=R (I Z H)/\W.cell? ⟨w.heap.size+1,2,N⟩=R (I Z E)/\W.cell? ⟨w.heap.size,2,N⟩=R (I Z F)/\W.cell? ⟨w.heap.size+1,4,N⟩=R (A (R ⟨bw,ow,N⟩) C.length A7)/\W.cell? ⟨bw,ow+2,N⟩=R (I Z zt)/\W.cell? ⟨bw,ow+3,N⟩=R (I Z za)):=qh (λW f=>⟨Qf f k1 A2,Qf f j A2,Qf f x2 AF,Qf f z A2,Qf f e0 AA,Qf f e1 AA⟩)
  go_region_held3(λW=>W.cell? ⟨w.heap.size+1,1,N⟩=R (I Z H)/\W.cell? ⟨w.heap.size+1,2,N⟩=R (I Z E)/\W.cell? ⟨w.heap.size,2,N⟩=R (I Z F)/\W.cell? ⟨w.heap.size+1,4,N⟩=R (A (R ⟨bw,ow,N⟩) C.length A7)/\W.cell? ⟨bw,ow+2,N⟩=R (I Z zt)/\W.cell? ⟨bw,ow+3,N⟩=R (I Z za))
   (((with_reducible refine BA.o _ ?_);(with_reducible refine Q1.drew ?_);(repeat(with_reducible refine Q1.alloc ?_ _));(first|with_reducible exact Q1.refl _ _|exact Q1c (X:=λc=>c=B.heap.size) (Q1.refl (λc=>c=B.heap.size) V) rfl _ _ _ _ _|fail)))
   (fail)
  all_goals
   refine Qq ?_;intro M BB;obtain⟨k,n,o,r,s,u,v,x,y,yc,O,AG,B6,B7,AH,A1⟩:∃(k n o:Int) (r:Option Cm) (s u:Nat) (v:Option Cm) (x y:Nat) (yc:Qb) (O:List Nat),D (M.heap[B.heap.size]?=R (.cells #[I Z k,I Z n,I Z o,A r s u,A v x y] 134 (0,0)))/\D (Below B.heap.size B M)/\D (Ow Q3 M [I Z k,I Z n,I Z o,A r s u,A v x y] yc O)/\D (O.Nodup/\∀q∈O,B.heap.size<q)/\D (Q4r m (P,U,F,Y,d) (7,H,E,J,C)=(Qj m yc,[(C.getD 0 (0,0),((1:Int),mF m))])):=by
    rw[BB]
    first
     |exact⟨8,H,E,R ⟨V.heap.size,0,N⟩,1,1,R ⟨V.heap.size+1,0,N⟩,1,1,(8,H,E,[F],[(zt,za)]),[V.heap.size]++ [V.heap.size+1],qh (Q2b L.o _ _ _ _ _ _ _ _ _).2.2.1,qh (K.o.trans ((Q2b L.o _ _ _ _ _ _ _ _ _).2.2.2.below (Ep A9) (λi e=>by omega))),qh (Ow.mkAgent (by unfold Qqm;omega) AE.o.2.1 AE.o.2.2 (Q9f (Q2b L.o _ _ _ _ _ _ _ _ _).1 B0.o.2.2) (Q43 (Q2b L.o _ _ _ _ _ _ _ _ _).2.1 AB.o.1 AB.o.2)),qh ⟨by simp,by simp;omega⟩,qh (by rw[A3.o,AN.o])⟩
     |exact⟨8,H,E,R ⟨V.heap.size+1,0,N⟩,1,1,R ⟨V.heap.size,0,N⟩,1,1,(8,H,E,[F],[(zt,za)]),[V.heap.size+1]++ [V.heap.size],qh (Q2b L.o _ _ _ _ _ _ _ _ _).2.2.1,qh (K.o.trans ((Q2b L.o _ _ _ _ _ _ _ _ _).2.2.2.below (Ep A9) (λi e=>by omega))),qh (Ow.mkAgent (by unfold Qqm;omega) AE.o.2.1 AE.o.2.2 (Q9f (Q2b L.o _ _ _ _ _ _ _ _ _).2.1 B0.o.2.2) (Q43 (Q2b L.o _ _ _ _ _ _ _ _ _).1 AB.o.1 AB.o.2)),qh ⟨by simp,by simp;omega⟩,qh (by rw[A3.o,AN.o])⟩
   clear BB K L A9 k0 k1 j x2 z e0 e1 BA A3 AN A2 AF AA rf r0 r1 r2 r3 r4 l1 l2 l3 BY C0 AM AB
 all_goals
  have A4:=qh ((Qk.start A8.o.mem A8.o.free).below B6.o);obtain⟨⟨-,-,-,-,y4⟩,-,BC⟩:=AD.o _ A4.o.fr;obtain⟨by_,A0,BD,hE⟩:=Rd.elem BC 0 AK;have BE:D (∀G,Q1 (λc=>c=g\/c∈S.all) B G->G.cell? ⟨w.heap.size+1,4,N⟩=R (A (R ⟨by_,A0,N⟩) C.length A7)/\G.cell? ⟨by_,A0,N⟩=R (I Z C[0].1)/\G.cell? ⟨by_,A0+1,N⟩=R (I Z C[0].2)):=qh (λG f=>by obtain⟨⟨-,-,-,-,z⟩,-,AI⟩:=AD.o G f;obtain⟨b2,o2,AO,C1⟩:=Rd.elem AI 0 AK;rw[BD]at AO z;simp only[Option.some.injEq,Addr.mk.injEq,and_true]at AO;obtain⟨rfl,rfl⟩:=AO;have:=At.word (t:=C[0].1) (a:=C[0].2) C1;simp only[Ty.sz,Bj,Cd,Nat.zero_mul,Cq]at this z;exact⟨z,this.1,this.2.1⟩);have BF:D (Qqm C[0].1/\Qqm C[0].2):=qh ((At.word (t:=C[0].1) (a:=C[0].2) hE).2.2);have C2:=qh (Q7u AK);generalize C[0].1=wt at *
  generalize C[0].2=wa at *
  clear BD hE BC y4;obtain⟨y4,f0,f1⟩:=BE.o _ A4.o.fr;obtain⟨⟨r0,r1,r2,r3,r4⟩,-⟩:=Y0 AG.o;have CE:B.heap.size<M.heap.size:=Zb AG.o;have BG:D (mF m=(e:Int)/\e<(mC m).length):=qh (⟨(A4.o.first Z5).1,(A4.o.first Z5).2.1⟩);have C3:D (Qqm (e:Int)):=qh (by have h1:=BG.o.2;unfold Qqm;omega);have BH:=qh A8.o.mem.lt;have BI:D ((∀q∈O,q∉g::S.all)/\∀q∈O,B.heap.size<=q):=qh (⟨λq hq hm=>by have:=AH.o.2 q hq;have:=BH.o q hm;omega,λq hq=>Ep (AH.o.2 q hq)⟩);have CF:(0:Int)<C.length:=by omega
  have AC:D (¬(B.heap.size=g\/B.heap.size=S.cb)):=qh (λh=>by have h1:=BH.o g Ae;have h2:=A8.o.mem.cells.blk.lt;omega);have AJ:D (∀G,Q1 (λc=>c=g\/c∈S.all) B G->Q1 (λc=>c=g\/c=S.cb) M G->(G.cell? ⟨w.heap.size+1,4,N⟩=R (A (R ⟨by_,A0,N⟩) C.length A7)/\G.cell? ⟨by_,A0,N⟩=R (I Z wt)/\G.cell? ⟨by_,A0+1,N⟩=R (I Z wa))/\G.cell? ⟨B.heap.size,0,N⟩=R (I Z k)/\G.cell? ⟨B.heap.size,1,N⟩=R (I Z n)/\G.cell? ⟨B.heap.size,2,N⟩=R (I Z o)/\G.cell? ⟨B.heap.size,3,N⟩=R (A r s u)/\G.cell? ⟨B.heap.size,4,N⟩=R (A v x y)):=qh (λG h1 h2=>by obtain⟨⟨g0,g1,g2,g3,g4⟩,-⟩:=Y0 AG.o;exact⟨BE.o G h1,Q4w h2 g0 g1 g2 g3 g4 AC.o AC.o AC.o AC.o AC.o⟩);have C4:D (Q1 (λc=>c=g\/c=S.cb) M M.drew):=qh ((Q1.refl _ M).drew);have C5:D (Qqm (1:Int)):=qh (by unfold Qqm;omega);go_wp2_with fail
  go_region_held3(λW=>(W.cell? ⟨w.heap.size+1,4,N⟩=R (A (R ⟨by_,A0,N⟩) C.length A7)/\W.cell? ⟨by_,A0,N⟩=R (I Z wt)/\W.cell? ⟨by_,A0+1,N⟩=R (I Z wa))/\W.cell? ⟨B.heap.size,0,N⟩=R (I Z k)/\W.cell? ⟨B.heap.size,1,N⟩=R (I Z n)/\W.cell? ⟨B.heap.size,2,N⟩=R (I Z o)/\W.cell? ⟨B.heap.size,3,N⟩=R (A r s u)/\W.cell? ⟨B.heap.size,4,N⟩=R (A v x y))
   (first|with_reducible exact AJ.o _ BJ.o.fr C6.o|with_reducible exact AJ.o _ AP.o.fr AQ.o|with_reducible exact AJ.o _ BK.o.fr BL.o|with_reducible exact AJ.o _ A4.o.drew.fr C4.o|fail)
   (first|((go_at_call 242;(with_reducible refine(Q4k A4.o.drew k n o r v s u x y yc O (B7.o.kept λ_ _=>rfl) AH.o.1 BI.o.1 BI.o.2).mono ?_);rintro e' CG ⟨rfl,hs,f⟩;have BK:=qh hs;have BL:=qh (Q1.trans (show Q1 (λc=>c=g\/c=S.cb) M _ from(Q1.refl _ M).drew) f);clear hs f))|((go_at_call 246;(with_reducible refine(Q01 _ (e:Int)).mono ?_);rintro e' A5 ⟨rfl,hb⟩;have AP:=qh (BK.o.below hb);have AQ:=qh (Q1.trans BL.o (Ay hb));have BJ:=qh (AP.o.below (show Below A5.heap.size A5 (A5.alloc (.cells #[I Z wt,I Z wa,I Z 1,I Z e] 232))from(Ai _ _).alloc (Aj _) _));have C6:=qh (AQ.o.alloc (.cells #[I Z wt,I Z wa,I Z 1,I Z e] 232));clear hb))|fail)
  go_wp2_with fail
  go_ret;refine⟨_,S.put (e:Int) O,l,rfl, ?_, ?_⟩
  ·rw[A1.o];exact A8.o.trans BJ.o
  ·rw[A1.o]
   show Yy Qu _ _ _ _ [(C.getD 0 (0,0),((1:Int),mF m))];rw[C2.o,BG.o.1];have hz:=AQ.o.size;refine⟨[A5.heap.size],Qgj (Bg A5 _) BF.o.1 BF.o.2 C5.o C3.o,by simp,λq hq=> ?_⟩;obtain rfl:q=A5.heap.size:=by simpa using hq
   exact⟨by omega,λhm=>by have h2:=AP.o.mem.lt _ (Aa _ hm);omega⟩
end Go.Proofs.YthbpkpnioaniiaaGreat
