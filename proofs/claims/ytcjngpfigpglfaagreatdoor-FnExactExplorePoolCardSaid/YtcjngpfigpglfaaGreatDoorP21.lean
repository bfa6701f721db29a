import Derived.Test.YtcjngpfigpglfaaGreatDoorP12
import Derived.Test.YtcjngpfigpglfaaGreatDoorP20
set_option maxHeartbeats 0
set_option maxRecDepth 100000
set_option linter.all false
namespace Go.Proofs.YtcjngpfigpglfaaGreatDoor
open Go.RowKit Go.Proofs.Tryz
open Go.Value renaming int->I,slice->A
open Go.IntKind renaming i64->Z
open Option renaming none->N,some->R
open OC(oC)
open OR(oR)
open JN(jN)
open And renaming intro->Cj
open Bool renaming true->Bn,false->Bm
open Go renaming madeCells->Ds,World->Bh,heap_alloc_new->Bg,maxLen->Bu,Value->Bk,bodyPost_ret->Ce
open Go.RowKit renaming Below->Bp,intOf->By
open Go.World renaming cell?_setCell_same->Bx,cell?_setCell_far->Gt
open List renaming foldl_cons->Cb,replicate->Ch,range->Bz,set_cons_zero->Cv,length_set->Bl,foldl_append->Dj,length_cons->Br,mem_singleton_self->Ij,length_take->Cf,length_append->Bo
open Nat renaming mul_one->Cc,reduceAdd->Bj,zero_add->Cg,le_of_lt->Fu
open Option.some renaming injEq->Bt
def Qiz(w)(n:Nat)(H:n<=1000000000):(Instr.makeSlice 34 (n:Int) (n:Int)).run prog w=.ok (A (R (w,0)) n n) (w.alloc (.cells (Ds (I Z 0).cells n) 2)):=by
 obtain⟨B,C,E,F,G⟩:=info_parts Q2v;have:=run_make (P:=prog) w 34 2 B (I Z 0) underlying34 C E Z Z (n:Int) (n:Int) (by omega) (by omega) (by rw[G];omega) (by omega);rw[F]at this;simpa using this
def Qn.thruI{C w w' E S S' pb B m F l l'}(h:Qn C E pb B w m S l)(k:Qn w S pb B w' F S' l'):Qn C E pb B w' F S' l':=
 h.step k.mem k.free k.fresh k.fr k.keep
theorem Qnp{at1 at2 w}(B:at1.getD w.1.1.toNat 0=at2.getD w.1.1.toNat 0)(C:at1.getD w.2.1.toNat 0=at2.getD w.2.1.toNat 0)(m):Q4l at1 m w=Q4l at2 m w:=by
 unfold Q4l Qaq;rw[B,C]
theorem Q8f{at1 at2:List Int}:∀(L:List Qy3) (m:Qyb),(∀w∈L,at1.getD w.1.1.toNat 0=at2.getD w.1.1.toNat 0/\at1.getD w.2.1.toNat 0=at2.getD w.2.1.toNat 0)->L.foldl (Q4l at1) m=L.foldl (Q4l at2) m
 | [],_,_=>rfl
 |w::L,m,h=>by rw[Cb,Cb,Qnp (h w Ae).1 (h w Ae).2];exact Q8f L _ λv B=>h v (Aa _ B)
def Qlr{n:Qy0}(h:Yd n=Bn){w}(B:w∈Zg n):(Q26 n w.1/\w.1.2<(aW (Q7 n w.1.1)))/\Q26 n w.2/\w.2.2<(aW (Q7 n w.2.1)):=by
 obtain⟨B,C⟩:=List.mem_filter.1 B;obtain⟨E,-,F⟩:=Q3h.1 B;simp only[Bool.and_eq_true,decide_eq_true_eq]at C;grind[J1,Q7d,Yn]
def Q15(w:Bh)(b:Nat)(L:List Int):Prop:=w.heap[b]?=R (.cells (L.map (I Z)).toArray 2 (0,0))
theorem Q15.cell{w b L}(h:Q15 w b L){i:Nat}(B:i<L):w.cell? (b,i)=R (I Z (L.getD i 0)):=Q6 h (by rw[Ab,Ad B];simp[B])
theorem Q15.free{w b L}(h:Q15 w b L)(q:Nat):w.frozen? (b,q)=Bm:=Q0u.free ⟨_,h⟩ q
theorem Q15.set{w b L}(h:Q15 w b L)(i)(v:Int):Q15 (w.setCell (b,i) v) b (L.set i v):=by
 unfold Q15 at *
 rw[Z1 h];simp_all
theorem Q15.frame{w w' b L X}(h:Q15 w b L)(k:Q1 X w w')(hX:¬X b):Q15 w' b L:=(k.block b (Zl h) hX).trans h
def Q15.made(w:Bh)(n):Q15 (w.alloc (.cells (Ds (I Z 0).cells n) 2)) w (Ch n 0):=by
 unfold Q15;rw[Bg];congr 2
 apply Array.toList_inj.1;rw[Qg9,Q70]
def Q8n(n:Qy0)(l:Int)(m:Qyb)(j:Nat):List Int:=(0::(Bz j).map λi=>mF (Jg n l m i))++Ch (n.length-1-j) 0
def Qp0{n:Qy0}{l m}{j:Nat}(h:j<=n-1)(B:1<=n.length):(Q8n n l m j).length=n:=by
 unfold Q8n;simp;omega
theorem Qlu{n l m}(B:1<=n.length):Q8n n l m 0=Ch n.length 0:=by
 unfold Q8n;obtain⟨k,C⟩:∃k,n.length=k+1:=⟨n.length-1,by omega⟩;grind
def Qn1{n:Qy0}{l m}{j:Nat}(h:j<n-1):(Q8n n l m j).set (j+1) (mF (Jg n l m j))=Q8n n l m (j+1):=by
 unfold Q8n;have B:(0::(Bz j).map λi=>mF (Jg n l m i))=j+1:=by simp
 obtain⟨k,C⟩:∃k,n.length-1-j=k+1:=⟨n.length-1-j-1,by omega⟩;rw[List.set_append_right _ _ (by omega),B,Nat.sub_self,C,List.replicate_succ,Cv,show n.length-1-(j+1)=k by omega,List.range_succ,List.map_append];simp
theorem Qn6{n l m}:Q8n n l m (n.length-1)=(Qxs n l m (n.length-1)).set 0 0:=by
 unfold Q8n Qxs;simp
def Qq0{n:Qy0}(h:Yd n=Bn):2<=n.length:=by
 obtain⟨C,E⟩:=Q47 h;have B:((0:Int),(0:Int))∈Qk n:=Yn.2 ⟨⟨by simp,by simp;omega⟩,by simp,by show(0:Int)<((aW (Q9 n 0)):Int);omega⟩;obtain⟨F,G,-⟩:=J1 h B;grind[Yn,Q64]
theorem Qqb(BS w)(DZ:Bp BS.heap.size BS w)(g){m S l}(h:Zh w g 0 m S)(hl:Yq m l)(hS:∀b∈g::S.all,BS.heap.size<=b)(p0 c0)(bk:List Qy0)(CJ:Rd (.slice Jl) BS [A p0 bk c0] bk)(AV:w.cell? (g,5)=R (A p0 bk c0))(H0:bk<=Bu)(kx:Int)(B)(vx:Int)(dx:List Int)(wx:List Wd)(px qx cx ex)(b:Int)(n)(hv:0<=vx/\vx<bk)(hn:Yc bk vx=n)(CK:Yd n=Bn)(E0:0<=B/\B<=8)(E1:Q05 n B=Bn)(E2:n.length-1+(Zg n).length<=l)(E:0<=b/\b<(mC m).length)(hC:(mC m).length<=1000000)(hX:(mX m).length<=100000):
  Calls prog 251 #[(g,0),.agg #[kx,B,vx,A px dx cx,A qx wx ex],b] w λe w'=>e=.returned (.tuple #[])/\∃S' l',Qn w S g 0 w' (Q2e n B m b) S' l':=by
 have BT:=qh (Qn.start h hl);have CL:=qh h.lt;have HS:=qh hS;have H1:=qh DZ;have JK:=qh CJ;have A0:=qh CK;have AW:=qh E1;have CM:=qh E2;have JL:g<w.heap.size:=h.blk.lt;obtain⟨H2,H3⟩:=hv;obtain⟨hh,CN⟩:=Q6f H2 H3;rw[hn]at CN;obtain⟨bb,ob,rfl,hE⟩:=Rd.elem CJ vx.toNat hh;rw[CN]at hE;obtain⟨qn,qc,n0,-,-,hN⟩:=hE.net;simp only[Ty.sz,Cc]at n0;have HN:=qh hN;have HG:=qh h.blk;have CO:=qh AV;have A5:=qh (Qj8 CK);have E3:=D (-1000<=B/\B<=1000) (by omega);have JM:=qh n0;unfold Bu at H0;clear h hl hS DZ CJ CK E1 E2 CN hh hE hN hn;go_enter func251,ntmps251;go_upto_region 1 with fail
 refine Qp λW hW=> ?_;have CP:=D (w,W) (by rw[hW];go_grown);have E4:W.heap[w.heap.size]?=R (.cells #[kx,B,vx,A px dx cx,A qx wx ex] 172):=by rw[hW];exact Bg w _
 obtain⟨⟨-,t1,t2,-,-⟩,-⟩:=Yf E4;have E5:=qh (Q0 H1 CP);have n0:=jC E5 n0;have AV:=jC CP AV;have H4:=Ac W _ AV;have H5:=Ac W _ n0;have E6:=Ac W _ t1;simp only at H4 H5 E6;have H6:=D (∀W',Bp W.heap.size W W'->(W',g,5,A (R (bb,ob)) bk c0)/\(W',w.heap.size,1,B)/\(W',w.heap.size,2,vx)/\(W',bb,ob+vx.toNat,A qn n qc)) (λW' E=>Q8a E AV t1 t2 n0);have E7:=D (∀W',Bp W.heap.size W W'->Rd Jl W' [A qn n qc] n) (λW' E=>HN.o.kb (Q0 E5 E));have E8:Bp W.heap.size W W.drew:=(Ai _ _).drew;have CQ:=qh E8;have CR:=D (Bp W.heap.size W ((W.alloc (.cells #[jN] 79)).drew)) (((Ai _ _).alloc (Aj _) _).drew);have E9:=qh (Aj W.heap.size);clear hW E4 t1 t2 n0 AV E8;go_cut [6] (λx wz=>∃(X:Nat) (pN:Option Addr) (cN:Nat),x=.pointer (R (X,0))/\W.heap.size<=X/\(wz,oC X #[A pN n cN] 79)/\(∃Fn,Ow Jl wz [A pN n cN] (J8 n B) Fn/\∀q∈Fn,W.heap.size<=q/\q≠X)/\(W,wz))
 case first=>
  go_region_held3(λW'=>(W',g,5,A (R (bb,ob)) bk c0)/\(W',w.heap.size,1,B)/\(W',w.heap.size,2,vx)/\(W',bb,ob+vx.toNat,A qn n qc))
   (((refine H6.o _ ?_);(first|(with_reducible first|exact A6.o|exact A6.o.alloc A6.o.size _|exact(A6.o.alloc A6.o.size _).setCell A6.o.size _|exact A6.o.setCell E9 _|exact CQ.o|exact CR.o)|go_grown)))
   (first
    |((go_at_call 272;(with_reducible refine(Q3m W.drew [A qn n qc] n B (E7.o _ CQ) A5.o.1 A5.o.2.1 A5.o.2.2 E3).mono ?_);rintro e AX ⟨EA,H7,EB,rfl,hn,E⟩;rw[AW.o];have EC:=qh (hn AW);have A6:=qh (Q0 CQ E);clear E hn))
    |((go_at_call 272;(with_reducible refine(Q3m ((W.alloc (.cells #[jN] 79)).drew) [A qn n qc] n B (E7.o _ CR) A5.o.1 A5.o.2.1 A5.o.2.2 E3).mono ?_);rintro e AX ⟨EA,H7,EB,rfl,hn,E⟩;rw[AW.o];have EC:=qh (hn AW);have A6:=qh (Q0 CR E);have BU:=Qf (w:=(W.alloc (.cells #[jN] 79)).drew) (Bg W (.cells #[jN] 79)) E;have H8:=qh BU;have JO:AX.cell? (W.heap.size,0)=R (A N 0 0):=Q6 BU rfl;have JP:AX.frozen? (W.heap.size,0)=Bm:=Q0u.free ⟨_,BU⟩ 0;clear E hn BU))
    |fail)
  all_goals(go_wp2;go_meet)
  all_goals
   obtain⟨F,o,nd,r⟩:=EC.o;obtain⟨p',c',CS⟩:=o.slice_form;rw[J3]at CS;simp only[Value.slice.injEq]at CS;obtain⟨rfl,rfl,rfl⟩:=CS
  ·refine⟨AX.heap.size,_,_,rfl,A6.o.size,Bg AX _,⟨F,o.kept λb E=>Az _ _ _ (r b E).2,λq G=>⟨(r q G).1,λe=>by have:=(r q G).2;omega⟩⟩,A6.o.alloc A6.o.size _⟩
  have C:=Q23 (o:=0) (v:=A EA n EB) (Q1.refl (λc=>c=W.heap.size) AX);have hz:W.heap.size<((W.alloc (.cells #[jN] 79)).drew).heap.size:=by show _<(W.alloc _).heap.size;simp
  refine⟨W.heap.size,_,_,rfl,Aj _,(by rw[Z1 H8.o];simp),⟨F,o.frame C λb E=>⟨(r b E).2,λe=>by have h1:=(r b E).1;have h2:b=W.heap.size:=e;omega⟩,λq G=>⟨by have:=(r q G).1;omega,λe=>by have:=(r q G).1;omega⟩⟩,A6.o.setCell E9 _⟩
 obtain⟨X,pN,cN,rfl,H9,A7,⟨Fn,BV,A8⟩,BW⟩:=hcut;have JQ:=Qq0 A0;have JR:=qh BW;have CT:=qh (Q0 CP BW);have JS:=BW.size;have JT:w.heap.size<W.heap.size:=E6;have HA:=qh (Qn.start (BT.o.below CT).mem (BT.o.below CT).free);have HB:=qh A8;have ED:=qh BV;have EE:=qh A7;obtain⟨bN,oN,rfl,-⟩:=Rd.elem BV.rd 0 (by rw[J3];omega);have CU:=D (∀V,Q1 (λc=>c=g\/c∈S.all) wc V->(V,oC X #[A (R (bN,oN)) n cN] 79)/\Ow Jl V [A (R (bN,oN)) n cN] (J8 n B) Fn) (λV C=>by have EF:∀q,W.heap.size<=q->¬(q=g\/q∈S.all):=λq G e=>e.elim (λe=>by omega) (λe=>by have:=CL.o q (Aa _ e);omega);exact⟨(C.block X (Zl EE) (EF X H9)).trans EE,ED.o.frame C λq G=>⟨ED.o.lt q G,EF q (HB.o q G).1⟩⟩);have B7:=D (∀V,Q1 (λc=>c=g\/c∈S.all) wc V->At Jl V X 0 (J8 n B)) (λV C=>At.ofBox (us:=[A (R (bN,oN)) n cN]) (CU.o V C).1 (CU.o V C).2.rd);have x0:wc.cell? (X,0)=R (A (R (bN,oN)) n cN):=Q6 A7 rfl;have JU:=Zl A7;obtain⟨-,-,JV⟩:True/\True/\(n<=cN/\cN<=Bu):=by
  obtain⟨v',ev,h⟩:=BV;rcases h with⟨hx,-⟩|⟨b9,o9,JW,cur,T,Fs,hv,h1,h2,-⟩
  ·have h9:=J3 n B
   rw[hx]at h9;simp at h9;omega
  have:A (R (bN,oN)) n cN=v':=by simpa using ev
  rw[hv]at this;simp only[Value.slice.injEq]at this;rw[J3]at h1;exact⟨trivial,trivial,by omega,by omega⟩
 have HC:=λV=>Qiz V n (by have:=A5.o.1;omega);have HD:=D (∀V:Bh,Q15 (V.alloc (.cells (Ds (I Z 0).cells n) 2)) V.heap.size (Ch n 0)) (λV=>Q15.made V n);generalize Ds (I Z 0).cells n.length=cur at *
 have g1:(1:Int)<=n:=by omega
 have g2:(n:Int)<=cN:=by omega
 have g3:(1:Int)<=cN:=by omega
 have g4:(cN:Int)≠1:=by omega
 have g5:cN≠1:=by omega
 clear BW A8 BV A7;go_upto_region 4 with fail
 refine Qp λW3 CV=> ?_;have HE:=D (wc,W3) (by rw[CV];go_grown);have HF:=D (Q15 W3 wc.heap.size (Q8n n B m 0)) (by rw[Qlu (by omega),CV];exact HD.o wc);have HH:=qh (HA.o.below HE);have HI:=D (wc.heap.size∉S.all) (λh=>by have:=CL.o _ (Aa _ h);omega);have CW:=D (S.cb<w.heap.size) (CL.o _ (Aa _ Ae));clear CV HC x0;go_loopw [42] (λi wr=>∃(j:Nat) (S':MS),j<=n-1/\i=I Z j/\Hd (Qn wc S g 0 wr (Jg n B m j) S' (l.drop j))/\Hd (Q15 wr wc.heap.size (Q8n n B m j))/\Hd (wc.heap.size∉S'.all)) (λi _=>n.length-(By i).toNat);case atStart=>exact⟨0,S,Ak _,rfl,HH.o,HF.o,HI.o⟩
 obtain⟨j,S',hj,rfl,A9,AY,CX⟩:=hrel;have HJ:=A9.o.fr.size;by_cases HK:j<n-1
 ·have EG:j<l:=by have:=CM.o;omega
  have HL:=D (l.drop j=l.getD j 0::l.drop (j+1)) (by rw[List.drop_eq_getElem_cons EG,Ab,Ad EG];rfl);generalize l.getD j 0=f at *
  rw[HL.o]at A9;have EH:j+1<(J8 n B).length:=by rw[J3];omega
  obtain⟨bq,oq,EI,hA⟩:=Rd.elem (CU.o _ A9.o.fr).2.rd (j+1) EH;simp only[Bt,Addr.mk.injEq,and_true]at EI;obtain⟨rfl,rfl⟩:=EI;rw[<-Qy EH]at hA;have HM:=D (Jg n B m (j+1)=Qi (Jg n B m j) (Qmy (Q9 (J8 n B) (j+1)))) (by rw[Qja];rfl);have EJ:=D (((aD (Q9 (J8 n B) (j+1))).length<=100000000/\(aW (Q9 (J8 n B) (j+1))).length<=100000000)/\1<=(aW (Q9 (J8 n B) (j+1))).length) (by
   have hm:Q9 n (j+1)∈n:=by rw[Qy (by omega)];exact As _
   have h1:=A5.o.2.1 _ hm;have h2:=Q1t ((Yl A0).2.1 (j+1) (by omega));rw[Q6x];exact⟨h1,h2⟩)
  generalize Q9 (J8 n B) (j+1)=x at *
  obtain⟨k,lv,v,d,ws⟩:=x;obtain⟨pd,cd,pw,cw,⟨a0,J,U,a3,a4⟩,hi,⟨-,-,hd⟩,⟨-,-,hw⟩⟩:=hA.agent;have HO:=D (∀V,Bp wr.heap.size wr V->Rd Q4 V [k,lv,v,A pd d cd,A pw ws cw] (k,lv,v,d,ws)) (λV E=>Q6l hi.1 hi.2.1 hi.2.2 (hd.kb E) (hw.kb E));have EK:bN=bN/\oN+(j+1) * Q4.sz=oN+5+j * 5:=⟨rfl,by simp only[Ty.sz,Bj];omega⟩;rw[EK.2]at a0 J U a3 a4;have HP:=Ac wr _ a0;simp only at HP;have CY:(0:Int)<=j:=by omega
  have CZ:(j:Int)<((n.length-1:Nat):Int):=by omega
  have JX:(j:Int)+1<n.length:=by omega
  have JY:(0:Int)<=(j:Int)+1:=by omega
  have JZ:((j:Int)+1).toNat=j+1:=by omega
  have K0:IntKind.i64.wrap ((j:Int)+1)=(j:Int)+1:=by have:=A5.o.1;simp only[IntKind.wrap_i64];omega
  have D0:=D (mF (Jg n B m j)=(f:Int)) ((A9.o.first Z6).1);have HR:=D ((Q8n n B m j).set (j+1) (f:Int)=Q8n n B m (j+1)) (by rw[<-D0.o];exact Qn1 HK);have HT:=D ((Q8n n B m j).length=n) (Qp0 hj (by omega));clear hA hd hw hi EK;go_upto_region 6 with fail
  refine Qp λH A1=> ?_;have A2:=D (wr,H) (by rw[A1];go_grown);obtain⟨g0,B8,EL,EM,EN⟩:=Q11 wr k lv v (A pd d cd) (A pw ws cw) 153;rw[<-A1]at g0 B8 EL EM EN;have K1:wr.heap.size<H.heap.size:=by rw[A1];simp
  have AK:=qh (A9.o.below A2);have AL:=qh (AY.o.frame (X:=λ_=>False) (Ay A2) id);have HU:=D (∀V,Q1 (λc=>c=g\/c=S.cb\/c=wc.heap.size) H V->(V,wr.heap.size,0,k)/\(V,wr.heap.size,1,lv)/\(V,wr.heap.size,2,v)/\(V,wr.heap.size,3,A pd d cd)/\(V,wr.heap.size,4,A pw ws cw)) (λV C=>by
   have K2:=Zl AY;have B9:¬(wr.heap.size=g\/wr.heap.size=S.cb\/wr.heap.size=wc.heap.size):=by
    rintro(e|e|e)
    ·omega
    ·have:=CW.o;omega
    omega
   exact Q62 C g0 B8 EL EM EN B9 B9 B9 B9 B9)
  have EO:=D (Bp H.heap.size H H.drew) ((Ai _ _).drew);have HV:=D (Q1 (λc=>c=g\/c=S.cb\/c=wc.heap.size) H H.drew) ((Q1.refl _ _).drew);have K3:=D ((λc=>c=g\/c=S.cb\/c=wc.heap.size) wc.heap.size) (.inr (.inr rfl));have HW:=qh A9.o.mem.lt;clear A1 a0 J U a3 a4
  go_region_held3(λV=>(V,wr.heap.size,0,k)/\(V,wr.heap.size,1,lv)/\(V,wr.heap.size,2,v)/\(V,wr.heap.size,3,A pd d cd)/\(V,wr.heap.size,4,A pw ws cw))
   (((with_reducible refine HU.o _ ?_);(first|(with_reducible first|exact EP.o|exact EQ.o|exact HV.o)|(exact HX.o (j+1) f)|fail)))
   (first
    |((go_at_call 274;(with_reducible refine(Qgm [k,lv,v,A pd d cd,A pw ws cw] (k,lv,v,d,ws) (HO.o _ (Q0 A2 EO)) EJ.o.1 EJ.o.2).mono ?_);rintro e wA ⟨vs,rfl,hn,E⟩;obtain⟨HY,HZ,I0,I1,rfl⟩:=hn.agentShape;obtain⟨GA,ER,ES,ET⟩:=hn;have I2:=qh ER;have I3:=qh ES;have D1:=D (∀q∈GA,H.heap.size<=q) (λq G=>(ET q G).1);have AB:=qh (Q0 EO E);have I4:=qh (AK.o.below AB);have EQ:=D (Q1 (λc=>c=g\/c=S.cb\/c=wc.heap.size) H wA) (Ay AB);clear E ER ES ET))
    |((go_at_call 273;(with_reducible refine(Q60 I4 _ _ _ HY I0 _ HZ _ I1 (Qmy (k,lv,v,d,ws)) GA I2 I3 (λq G hm=>(show False from by have h1:=D1.o q G;have h2:=HW.o q hm;omega)) (λq G=>by have h1:=D1.o q G;omega)).mono ?_);rintro e wT ⟨rfl,y,C⟩;have I5:=qh y;have EP:=qh (EQ.o.trans (C.mono λc z=>z.elim .inl λh=> .inr (.inl h)));have HX:=D (∀(o:Nat) (v:Bk),Q1 (λc=>c=g\/c=S.cb\/c=wc.heap.size) H (wT.setCell (wc.heap.size,o) v)) (λo v=>EP.o.setCell (.inr (.inr rfl)) v);have BX:=qh ((AL.o.frame (X:=λ_=>False) (Ay AB) id).frame C (λe=>e.elim (λe=>(show False from by omega)) (λe=>(show False from by have:=CW.o;omega))));have ci:=BX.o.cell (i:=j+1) (by have:=HT.o;omega);have cf:=BX.o.free (j+1);have K4:=Zl BX;clear y C))
    |fail)
  go_wp2
  go_roundw;case rel=>
   have I6:∀q∈GA,wc.heap.size<q:=λq G=>by have h1:=D1.o q G;omega
   have EU:wc.heap.size∉(S'.put (f:Int) GA).all:=λhm=>(Y0 hm).elim (λh=>by have:=I6 _ h;omega) CX;refine⟨j+1,S'.put (f:Int) GA,by omega,by go_num,(show Qn _ _ _ _ _ _ _ _ from ?_),(show Q15 _ _ _ from ?_),EU⟩
   ·rw[HM.o]
    refine I5.o.other (Y:=λc=>c=wc.heap.size) (Q23 (Q1.refl _ _)) (λc z=> ?_);have e:c=wc.heap.size:=z;rw[e];refine⟨λhm=>(Aq.1 hm).elim (λh=>by omega) EU,Aj _⟩
   rw[<-HR.o];exact BX.o.set (j+1) (f:Int)
  simp[By];omega
 have EV:j=n-1:=by omega
 have I7:=qh EV;rw[I7.o]at A9 AY;rw[Qn6]at AY;have K5:¬((j:Int)<((n.length-1:Nat):Int)):=by omega
 have EW:=D (J9 n ((Qxs n B m (n.length-1)).set 0 0) (mC m) (Jg n B m (n.length-1)) (l.drop (n.length-1))) (by obtain⟨h1,h2,h3⟩:=Qcf (n:=n) (by_:=B) BT.o.free (by have:=CM.o;omega);exact⟨h1,h2,λi hi hn=>by rw[Q0b _ _ hi];exact h3 i hi hn⟩);have EX:=D ((Zg n).length<=(l.drop (n.length-1))) (by rw[List.length_drop];have:=CM.o;omega);have I8:=D (∀m2 m3:Qyb,Q2e n B m b=Q2e n B m b) (λ_ _=>rfl);have AZ:=D (Q2e n B m b=(let m3:=(Y5 n).foldl (λmm p=>Ya mm (((Qxs n B m (n.length-1)).set 0 b).getD p.1.toNat 0) (((Qxs n B m (n.length-1)).set 0 b).getD p.2.toNat 0)) (((Qk n).filter (Q8r n)).foldl (Q5s n ((Qxs n B m (n.length-1)).set 0 b)) ((Zg n).foldl (Q4l ((Qxs n B m (n.length-1)).set 0 0)) (Jg n B m (n.length-1))));if(Qe n (0,0)).2==0 then Ya m3 b (((Qxs n B m (n.length-1)).set 0 b).getD (Qe n (0,0)).1.toNat 0)else m3)) (by unfold Q2e;simp only[];rw[Q8f (at1:=(Qxs n B m (n.length-1)).set 0 b) (at2:=(Qxs n B m (n.length-1)).set 0 0) (Zg n) _ (λw hw=>by obtain⟨⟨⟨⟨h1,-⟩,-⟩,-⟩,⟨⟨h2,-⟩,-⟩,-⟩:=Qlr A0 hw;exact⟨by rw[Q0b _ _ (by omega),Q0b _ _ (by omega)],by rw[Q0b _ _ (by omega),Q0b _ _ (by omega)]⟩)]);have EY:((Qxs n B m (n.length-1)).set 0 b)=(((Qxs n B m (n.length-1)).set 0 0).set 0 b):=by rw[List.set_set]
 have BA:=D (((Qxs n B m (n.length-1)).set 0 0).length=n) (by rw[Bl,Q7r];omega);have I9:=D (mX (Jg n B m (n.length-1))=mX m) (Qbm n B m _);rw[EY]at AZ;clear EV EY I8;generalize Jg n B m (n.length-1)=m1 at *
 generalize (Qxs n B m (n.length-1)).set 0 0=at0 at *
 generalize l.drop (n.length-1)=l1 at *
 have EZ:=qh (B7.o _ A9.o.fr);go_upto_region 9 with((go_at_call 270;(with_reducible refine(Qlb X 0 (J8 n B) EZ (Qkw A0 E0.1 AW)).mono ?_);rintro e wI ⟨vI,rfl,BY,F0⟩;rw[Qhw]at BY;obtain⟨pI,cI,rfl,-,-⟩:=BY.form;have F1:=qh BY;have D2:=qh F0;clear BY F0))
 have F2:=qh (A9.o.below D2);have F3:=qh (AY.o.frame (X:=λ_=>False) (Ay D2) id);obtain⟨FI,AH,A8,AA⟩:=F1.o.ow rfl;have F4:=D (Qjk Z7 FI wc S' wI (A pI (Zg n) cI) (Zg n)) (⟨AH,A8,λq G=>⟨Au HJ (AA q G).1,λhm=>by have h1:=(AA q G).1;have h2:=A9.o.mem.lt _ (Aa _ hm);omega⟩⟩);have IA:=D (∀w∈Zg n,(Q26 n w.1/\w.1.2<(aW (Q7 n w.1.1)))/\Q26 n w.2/\w.2.2<(aW (Q7 n w.2.1))) (λw hw=>Qlr A0 hw);have IB:=D ((Zg n).length<=10000000) (Q7m (Yl A0).2.2.2);have BB:=qh (Yl A0).2.2.1;have A3:=D (g<wc.heap.size/\S.cb<wc.heap.size) (⟨by omega,by have:=CW.o;omega⟩);clear AH A8 AA F1 A9 AY D2;generalize hI:Zg n=M at *
 clear hI;go_loopw [60] (λi wr=>∃(j:Nat) (S':MS) (l':List Nat),j<=M/\i=I Z j/\Hd (Qn wc S g 0 wr ((M.take j).foldl (Q4l at0) m1) S' l')/\Hd (J9 n at0 (mC m) ((M.take j).foldl (Q4l at0) m1) l')/\Hd (M.length<=l'.length+j)/\Hd (Q15 wr wc.heap.size at0)/\Hd (wc.heap.size∉S'.all)/\Hd (Qjk Z7 FI wc S' wr (A pI M cI) M)) (λi _=>M.length-(By i).toNat);case atStart=>exact⟨0,S',l1,Ak _,rfl,F2.o,EW.o,EX.o,F3.o,CX.o,F4.o⟩
 clear F2 EW EX F3 CX F4 EZ;rename Bh=>wr2
 obtain⟨j2,u,l2,K6,rfl,B0,B1,F5,B2,B3,D3⟩:=hrel;by_cases BZ:j2<M
 ·obtain⟨e,l3,rfl⟩:∃e l3,l2=e::l3:=by
   match l2,(show 0<l2.length by have:=F5.o;omega)with
   |e::l3,_=>exact⟨e,l3,rfl⟩
  obtain⟨bI,oI,rfl,hE⟩:=Rd.elem D3.o.1.rd j2 BZ;have A4:=D ((M.take (j2+1)).foldl (Q4l at0) m1=Q4l at0 ((M.take j2).foldl (Q4l at0) m1) M[j2]) (by rw[An BZ,Dj];rfl);have F6:=qh (IA.o M[j2] (As BZ));generalize M[j2]=wi at *
  generalize (M.take j2).foldl (Q4l at0) m1=mj at *
  obtain⟨⟨J,s1⟩,⟨U,s2⟩⟩:=wi;obtain⟨⟨e0,e1,e2,e3⟩,F7,F8,K7,K8⟩:=At.link hE;simp only[Ty.sz,Bj]at e0 e1 e2 e3;have K9:=B0.o.fr.size;obtain⟨F9,FA,KA⟩:=B1.o.var;have D4:=qh F9;have D0:=qh FA;have CY:(0:Int)<=j2:=by omega
  have CZ:(j2:Int)<M:=by omega
  have FB:=qh BZ;have KB:M.length<=10000000:=IB.o;have FC:=qh B0.o.mem.lt;clear hE F9 FA;go_upto_region 11 with fail
  refine Qp λH A1=> ?_;have A2:=D (wr2,H) (by rw[A1];go_grown);have AC:H.heap[wr2.heap.size]?=R (.cells #[J,s1,U,s2] 313):=by rw[A1];exact Bg wr2 _
  have C0:=qh AC;have AK:=qh (B0.o.below A2);have AL:=qh (B2.o.frame (X:=λ_=>False) (Ay A2) id);have D5:=qh (D3.o.step (X:=λ_=>False) (Ay A2) (λ_ h=>h.elim) (λb h=> .inl h));clear A1 AC e0 e1 e2 e3;go_upto_region 12 with((go_at_call 275;(with_reducible refine(Q7y AK).mono ?_);rintro e' w6 ⟨rfl,y,C⟩;have AE:=qh y;have C1:=qh C;clear y C))
  refine Qp λW7 D6=> ?_;have C2:=D (w6,W7) (by rw[D6];go_grown);have FD:W7.heap[w6.heap.size]?=R (.cells #[I Z 2,e] 40):=by rw[D6];exact Bg w6 _
  have D7:=qh FD;have IC:=Zl C0;have KC:=C1.o.size;have D8:=D (W7,oC wr2.heap.size #[J,s1,U,s2] 313) (Qf ((C1.o.block wr2.heap.size IC (λe=>e.elim (λe=>by have:=A3.o.1;omega) (λe=>by have:=A3.o.2;omega))).trans C0) C2);have D9:=qh (AE.o.below C2);have FE:=qh ((AL.o.frame C1 (λe=>e.elim (λe=>by have:=A3.o.1;omega) (λe=>by have:=A3.o.2;omega))).frame (X:=λ_=>False) (Ay C2) id);have C3:=D (∀q∈(u.put (e:Int) []).all,q∈u.all) (λq G=>(Y0 G).elim (λh=>by simp at h) id);have ID:=qh ((D5.o.step C1 (S':=u.put (e:Int) []) (λc z=> .inl (z.elim (λe=>by have:=A3.o.1;omega) (λe=>by have:=A3.o.2;omega))) (λb E=> .inl (C3.o b E))).step (X:=λ_=>False) (Ay C2) (λ_ h=>h.elim) (λb h=> .inl h));clear D6 FD;have K:=D (wr2.heap.size∉(u.put (e:Int) []).all/\w6.heap.size∉(u.put (e:Int) []).all) (⟨λh=>by have:=FC.o _ (Aa _ (C3.o _ h));omega,λh=>by have:=FC.o _ (Aa _ (C3.o _ h));omega⟩);have BC:=D (wc.heap.size∉(u.put (e:Int) []).all) (λh=>B3.o (C3.o _ h));have C4:=D (Qyn (2:Int)/\Qyn (e:Int)) (⟨by unfold Qyn;omega,by unfold Qyn;omega⟩);have IE:=qh D7.o;have FF:=D (Q4l at0 mj ((J,s1),(U,s2))=Qm (Qm (Qw mj) (at0.getD J.toNat 0) (s1-1) (2,(e:Int))) (at0.getD U.toNat 0) (s2-1) (2,(e:Int))) (by unfold Q4l Qaq;rw[D0.o]);have FG:=qh F6.o.1;obtain⟨⟨BD,AM⟩,AN⟩:=FG.o.1;have C5:=FG.o.2;simp only at BD AM AN C5;obtain⟨BE,BF,BG,BH⟩:=D4.o.2.2 J.toNat (by omega) (by omega);have BI:=D ((s1-1<((aW (Q7 (mC (Qw mj)) (at0.getD J.toNat 0))):Int))/\at0.getD J.toNat 0<((mC (Qw mj)):Int)) (⟨by rw[BH];have h:(s1:Int)<(aW (Q9 n J.toNat)):=C5;omega,by rw[D4.o.1];exact BF⟩);have DA:=D (∀V,Bp W7.heap.size W7 V->V.cell? (wc.heap.size,0+J.toNat)=R (I Z (at0.getD J.toNat 0))) (λV E=>by rw[Cg];exact((FE.o.frame (X:=λ_=>False) (Ay E) id)).cell (by rw[BA.o];omega));have DB:=D ((0:Int)<s1/\s1<=1000) (⟨AN,by have h:=BB.o J.toNat;have h2:(s1:Int)<(aW (Q9 n J.toNat)):=C5;omega⟩);have DC:=D ((0:Int)<=J/\J<(n:Int)) (⟨by omega,AM⟩);have AO:=qh (Cj BE BG);obtain⟨⟨FH,FJ,IF,IG⟩,-⟩:=Qu2 D8;obtain⟨⟨FK,FL⟩,-⟩:=Zj IE;have B4:=D (∀V,Q1 (λc=>c∈(u.put (e:Int) []).all) W7 V->((V,wr2.heap.size,0,J)/\(V,wr2.heap.size,1,s1))/\(V,w6.heap.size,0,I Z 2)/\(V,w6.heap.size,1,e)) (λV C=>⟨⟨Qo C FH K.o.1,Qo C FJ K.o.1⟩,Qo C FK K.o.2,Qo C FL K.o.2⟩);have DD:=D (Bp W7.heap.size W7 W7.drew) ((Ai _ _).drew);have C6:=D (Q1 (λc=>c∈(u.put (e:Int) []).all) W7 W7.drew) ((Q1.refl _ _).drew);have IH:=qh D9.o.drew;clear BD AM AN C5 BE BF BG BH FH FJ IF IG FK FL;go_upto_region 12 with fail
  go_region_held3(λV=>((V,wr2.heap.size,0,J)/\(V,wr2.heap.size,1,s1))/\(V,w6.heap.size,0,I Z 2)/\(V,w6.heap.size,1,e))
   (first|(with_reducible first|exact B4.o _ AF.o|exact B4.o _ C6.o)|fail)
   ((go_at_call 276;(with_reducible refine(Q9m IH wc.heap.size 0 n n J s1 2 e (at0.getD J.toNat 0) DC DB (DA.o _ DD) ⟨BC.o,by have:=A3.o.1;omega⟩ AO.o.1 BI.o.2 AO.o.2 BI.o.1 C4.o.1 C4.o.2).mono ?_);rintro e' w8 ⟨rfl,y,C⟩;have AP:=qh y;have AF:=qh (C6.o.trans C);clear y C))
  have C7:=qh (FE.o.frame AF BC);have DE:=qh (ID.o.step AF (λc z=> .inr z) (λb E=> .inl E));have DF:=qh ((AF.o.block wr2.heap.size (Zl D8) K.o.1).trans D8);have DG:=qh (D4.o.set (c:=at0.getD J.toNat 0) (k:=s1-1) (x:=(2,(e:Int))) AO.o.2);have II:=qh ((AF.o.block w6.heap.size (Zl D7) K.o.2).trans D7);go_wp2_with fail
  have FM:=qh F6.o.2;obtain⟨⟨FN,DH⟩,DI⟩:=FM.o.1;have C8:=FM.o.2;simp only at FN DH DI C8;obtain⟨FO,FR,FT,FU⟩:=DG.o.2.2 U.toNat (by omega) (by omega);have FV:=D ((s2-1<((aW (Q7 (mC (Qm (Qw mj) (at0.getD J.toNat 0) (s1-1) (2,(e:Int)))) (at0.getD U.toNat 0))):Int))/\at0.getD U.toNat 0<((mC (Qm (Qw mj) (at0.getD J.toNat 0) (s1-1) (2,(e:Int)))):Int)) (⟨by rw[FU];have h:(s2:Int)<(aW (Q9 n U.toNat)):=C8;omega,by rw[DG.o.1];exact FR⟩);have IJ:=D (∀V,Bp w8.heap.size w8 V->V.cell? (wc.heap.size,0+U.toNat)=R (I Z (at0.getD U.toNat 0))) (λV E=>by rw[Cg];exact((C7.o.frame (X:=λ_=>False) (Ay E) id)).cell (by rw[BA.o];omega));have IK:=D ((0:Int)<s2/\s2<=1000) (⟨DI,by have h:=BB.o U.toNat;have h2:(s2:Int)<(aW (Q9 n U.toNat)):=C8;omega⟩);have IL:=D ((0:Int)<=U/\U<(n:Int)) (⟨by omega,DH⟩);have DJ:=qh (Cj FO FT);obtain⟨⟨IM,IN,FW,FX⟩,-⟩:=Qu2 DF;obtain⟨⟨FY,FZ⟩,-⟩:=Zj II;have G0:=D (∀V,Q1 (λc=>c∈(u.put (e:Int) []).all) w8 V->((V,wr2.heap.size,2,U)/\(V,wr2.heap.size,3,s2))/\(V,w6.heap.size,0,I Z 2)/\(V,w6.heap.size,1,e)) (λV C=>⟨⟨Qo C FW K.o.1,Qo C FX K.o.1⟩,Qo C FY K.o.2,Qo C FZ K.o.2⟩);have IP:=D (Bp w8.heap.size w8 w8.drew) ((Ai _ _).drew);have G1:=D (Q1 (λc=>c∈(u.put (e:Int) []).all) w8 w8.drew) ((Q1.refl _ _).drew);have IQ:=qh AP.o.drew;clear FN DH DI C8 FO FR FT FU IM IN FW FX FY FZ;go_upto_region 13 with fail
  go_region_held3(λV=>((V,wr2.heap.size,2,U)/\(V,wr2.heap.size,3,s2))/\(V,w6.heap.size,0,I Z 2)/\(V,w6.heap.size,1,e))
   (first|(with_reducible first|exact G0.o _ C9.o|exact G0.o _ G1.o)|fail)
   ((go_at_call 276;(with_reducible refine(Q9m IQ wc.heap.size 0 n n U s2 2 e (at0.getD U.toNat 0) IL IK (IJ.o _ IP) ⟨BC.o,by have:=A3.o.1;omega⟩ DJ.o.1 FV.o.2 DJ.o.2 FV.o.1 C4.o.1 C4.o.2).mono ?_);rintro e' w9 ⟨rfl,y,C⟩;have IR:=qh y;have C9:=qh (G1.o.trans C);clear y C))
  have IS:=qh (C7.o.frame C9 BC);have IT:=qh (DE.o.step C9 (λc z=> .inr z) (λb E=> .inl E));have KD:=qh ((C9.o.block wr2.heap.size (Zl DF) K.o.1).trans DF);have IU:=qh (DG.o.set (c:=at0.getD U.toNat 0) (k:=s2-1) (x:=(2,(e:Int))) DJ.o.2);go_wp2
  go_roundw;case rel=>exact⟨j2+1,u.put (e:Int) [],l3,by have:=FB.o;omega,by go_num,(show Qn _ _ _ _ _ _ _ _ by rw[A4.o,FF.o];exact IR.o),(show J9 _ _ _ _ _ by rw[A4.o,FF.o];exact IU.o),(show _<=_ by have:=F5.o;simp only[Br]at this;omega),IS.o,BC.o,IT.o⟩
  simp[By];have:=FB.o;omega
 have IV:j2=M:=by omega
 have CA:=D (M.take j2=M) (Ao (by omega));rw[CA.o]at B0 B1;have KE:¬((j2:Int)<M):=by omega
 have IW:=D (mX (M.foldl (Q4l at0) m1)=mX m1) (Qhj (f:=Q4l at0) (λ_ _=>rfl) M m1);generalize hm2:M.foldl (Q4l at0) m1=m2 at *
 clear hm2 IV;have ci:=B2.o.cell (i:=0) (by rw[BA.o];omega);have cf:=B2.o.free 0;have KF:=Zl B2;have KG:(0:Int)<n:=by omega
 go_upto_region 16 with fail
 refine Qp λG2 DK=> ?_;have IX:=D (Q1 (λc=>c=wc.heap.size) wr2 G2) (by rw[DK];exact Q23 (Q1.refl _ _));have BJ:=qh (B0.o.other IX (λc z=>by have e:c=wc.heap.size:=z;rw[e];exact⟨λhm=>(Aq.1 hm).elim (λh=>by have:=A3.o.1;omega) B3,Aj _⟩));have G3:=D (Q15 G2 wc.heap.size (at0.set 0 b)) (by rw[DK];exact B2.o.set 0 b);have BK:=D ((at0.set 0 b).length=n) (by rw[Bl];exact BA.o);have G4:=D (J9 n (at0.set 0 b) (mC m) m2 l2) (⟨B1.o.1,B1.o.2.1,λi hi hn=>by rw[Q0b _ _ hi];exact B1.o.2.2 i hi hn⟩);have G5:=qh (B7.o _ BJ.o.fr);have G6:=D ((at0.set 0 b).getD 0 0=b) (Qmc (by rw[BA.o];omega));clear DK ci cf B2 B1 B0 D3;generalize at0.set 0 b=at1 at *
 have G7:=D ((J8 n B).length<=1000000/\(Qk (J8 n B)).length<=10000000) (by rw[J3,Q4d];exact⟨A5.o.1,(Yl A0).2.2.2.2.1⟩);go_upto_region 17 with((go_at_call 205;(with_reducible refine(Qfn X 0 (J8 n B) G5 G7.o.1 G7.o.2).mono ?_);rintro e wP ⟨vP,rfl,CB,G8⟩;rw[Q4d]at CB;obtain⟨pP,cP,rfl,-,-⟩:=CB.form;have G9:=qh CB;have DL:=qh G8;clear CB G8))
 have GB:=qh (BJ.o.below DL);have GC:=qh (G3.o.frame (X:=λ_=>False) (Ay DL) id);obtain⟨FP,AH,A8,AA⟩:=G9.o.ow rfl;have IY:=BJ.o.fr.size;have DM:=D (Qjk Q5 FP wc u wP (A pP (Qk n) cP) (Qk n)) (⟨AH,A8,λq G=>⟨Au IY (AA q G).1,λhm=>by have h1:=(AA q G).1;have h2:=BJ.o.mem.lt _ (Aa _ hm);omega⟩⟩);have GD:=D ((Qk n).length<=10000000) ((Yl A0).2.2.2.2.1);have GE:=D (∀p∈Qk n,((0<=p.1/\p.1<n)/\0<=p.2/\p.2<(aW (Q7 n p.1)))) (λp hp=>Yn.1 hp);clear AH A8 AA G9 BJ G3 DL G5;obtain⟨P,hP⟩:∃P:List Wd,Qk n=P:=⟨_,rfl⟩;rw[hP]at DM GD GE AZ⊢;clear hP;go_loopw [90] (λi wr=>∃(j:Nat),j<=P/\i=I Z j/\Hd (Qn wc S g 0 wr (((P.take j).filter (Q8r n)).foldl (Q5s n at1) m2) u l2)/\Hd (J9 n at1 (mC m) (((P.take j).filter (Q8r n)).foldl (Q5s n at1) m2) l2)/\Hd (Q15 wr wc.heap.size at1)/\Hd (Qjk Q5 FP wc u wr (A pP P cP) P)) (λi _=>P.length-(By i).toNat);case atStart=>exact⟨0,Ak _,rfl,GB.o,G4.o,GC.o,DM.o⟩
 clear GB GC DM G4;rename Bh=>wr3
 obtain⟨j3,KH,rfl,AG,AD,CC,DN⟩:=hrel;have IZ:=AG.o.fr.size;by_cases BL:j3<P
 ·obtain⟨bP,oP,rfl,hE⟩:=Rd.elem DN.o.1.rd j3 BL
  have AQ:=qh (GE.o P[j3] (As BL));have A4:=D (((P.take (j3+1)).filter (Q8r n)).foldl (Q5s n at1) m2=(if Q8r n P[j3]then Q5s n at1 (((P.take j3).filter (Q8r n)).foldl (Q5s n at1) m2) P[j3]else((P.take j3).filter (Q8r n)).foldl (Q5s n at1) m2)) (by rw[An BL,List.filter_append,Dj];cases hh:Q8r n P[j3]<;>simp[hh]);generalize P[j3]=pt at *
  generalize ((P.take j3).filter (Q8r n)).foldl (Q5s n at1) m2=mj at *
  obtain⟨a,O⟩:=pt;obtain⟨e0,e1,F7,F8⟩:=At.word (t:=a) (a:=O) hE;simp only[Ty.sz,Bj]at e0 e1;have CY:(0:Int)<=j3:=by omega
  have CZ:(j3:Int)<P:=by omega
  have B5:=qh BL;have KI:P.length<=10000000:=GD.o;have GG:=qh AG.o.mem.lt;have KJ:=Zl CC;clear hE;go_upto_region 19 with fail
  refine Qp λH A1=> ?_;have A2:=D (wr3,H) (by rw[A1];go_grown);have AC:H.heap[wr3.heap.size]?=R (.cells #[a,O] 207):=by rw[A1];exact Bg wr3 _
  have C0:=qh AC;obtain⟨⟨k0,k1⟩,-⟩:=Zj AC;have AK:=qh (AG.o.below A2);have J0:=qh (B7.o _ AK.o.fr);obtain⟨⟨q0,q1⟩,G⟩:∃q,Qe n (a,O)=q:=⟨_,rfl⟩;have HQ:=qh G;have AR:=D (((0:Int)<=a/\a<(J8 n B))/\(0:Int)<=O/\O<((aW (Q7 (J8 n B) a)):Int)) (by
   have e:aW (Q7 (J8 n B) a)=aW (Q7 n a):=by unfold Q7;rw[Q8t]
   rw[J3,e];exact AQ.o)
  have CD:=D ((0<=q0/\q0<n)/\Qyn q0/\Qyn q1) (by obtain⟨p1,-,-⟩:=J1 A0 (p:=(a,O)) (Yn.2 AQ);rw[G]at p1;obtain⟨⟨BM,BN⟩,m3,m4⟩:=Yn.1 p1;simp only at BM BN m3 m4;have:=BB.o q0.toNat;have:=A5.o.1;unfold Q7 at m4;refine⟨⟨BM,BN⟩, ?_, ?_⟩<;>unfold Qyn<;>omega);clear A1 AC e0 e1 G;go_upto_region 20 with((go_at_call 207;(with_reducible refine jR (Qce H X 0 (J8 n B) J0 a O AR.o.1.1 AR.o.1.2 AR.o.2.1 AR.o.2.2) λw5 E=> ?_);rw[Q3o,HQ.o];have CO:=qh E;clear E))
  refine Qp λW6 AI=> ?_;have CE:=D (w5,W6) (by rw[AI];go_grown);have A7:W6.heap[w5.heap.size]?=R (.cells #[q0,q1] 207):=by rw[AI];exact Bg w5 _
  have KK:=qh A7;obtain⟨⟨g0,B8⟩,-⟩:=Zj A7;have DO:=qh (Q0 CO CE);have k0:=jC DO k0;have k1:=jC DO k1;have AB:=qh (Q0 A2 DO);have AE:=qh (AG.o.below AB);have AS:=qh (CC.o.frame (X:=λ_=>False) (Ay AB) id);have DP:=qh (DN.o.step (X:=λ_=>False) (Ay AB) (λ_ h=>h.elim) (λb h=> .inl h));clear AI A7;by_cases DQ:0<O
  ·by_cases AT:q1=0
   ·subst AT
    have AJ:=D (Q8r n (a,O)=Bn) (by unfold Q8r;rw[HQ.o];simp[DQ]);have GH:=D (Q5s n at1 mj (a,O)=Qm mj (at1.getD a.toNat 0) (O-1) (1,at1.getD q0.toNat 0)) (by unfold Q5s Qaq;rw[HQ.o]);have J2:=qh (Q7d A0 (p:=(a,O)) (Yn.2 AQ) DQ);have CF:=D (Qyn (at1.getD q0.toNat 0)) (by
     by_cases e:q0.toNat=0
     ·rw[e,G6.o];unfold Qyn;omega
     have h:=AD.o.2.2 q0.toNat (by omega) (by have:=CD.o.1;omega);unfold Qyn;omega)
    obtain⟨⟨BD,AM⟩,AN⟩:=J2.o;simp only at BD AM AN;obtain⟨BE,BF,BG,BH⟩:=AD.o.2.2 a.toNat (by omega) (by omega);have BI:=D ((O-1<((aW (Q7 (mC mj) (at1.getD a.toNat 0))):Int))/\at1.getD a.toNat 0<((mC mj):Int)) (⟨by rw[BH];have h:O<(aW (Q9 n a.toNat)):=AQ.o.2.2;omega,by rw[AD.o.1];exact BF⟩);have DA:=D (∀V,Bp W6.heap.size W6 V->V.cell? (wc.heap.size,0+a.toNat)=R (I Z (at1.getD a.toNat 0))) (λV E=>by rw[Cg];exact((AS.o.frame (X:=λ_=>False) (Ay E) id)).cell (by rw[BK.o];omega));have DB:=D ((0:Int)<O/\O<=1000) (⟨AN,by have h:=BB.o a.toNat;have h2:O<(aW (Q9 n a.toNat)):=AQ.o.2.2;omega⟩);have DC:=D ((0:Int)<=a/\a<(n:Int)) (⟨by omega,AM⟩);have AO:=qh (Cj BE BG);obtain⟨J4,J5⟩:=CD.o.1;have c6:=AS.o.cell (i:=q0.toNat) (by rw[BK.o];omega);have K:=D (wr3.heap.size∉u.all/\w5.heap.size∉u.all) (⟨λh=>by have:=GG.o _ (Aa _ h);omega,λh=>by have:=GG.o _ (Aa _ h);have:=CO.o.size;have:=A2.o.size;omega⟩);have B4:=D (∀V,Q1 (λc=>c∈u.all) W6 V->((V,wr3.heap.size,0,a)/\(V,wr3.heap.size,1,O))/\(V,w5.heap.size,0,q0)/\(V,wc.heap.size,q0.toNat,(at1.getD q0.toNat 0))) (λV C=>⟨⟨Qo C k0 K.o.1,Qo C k1 K.o.1⟩,Qo C g0 K.o.2,Qo C c6 B3⟩);have DD:=D (Bp W6.heap.size W6 W6.drew) ((Ai _ _).drew);have C6:=D (Q1 (λc=>c∈u.all) W6 W6.drew) ((Q1.refl _ _).drew);have GI:=qh AE.o.drew;have J6:=qh (AD.o.set (c:=at1.getD a.toNat 0) (k:=O-1) (x:=(1,at1.getD q0.toNat 0)) AO.o.2);generalize at1.getD q0.toNat 0=tv at *
    clear BD AM AN BE BF BG BH;go_upto_region 21 with fail
    clear k0 k1 g0 B8 c6
    go_region_held3(λV=>((V,wr3.heap.size,0,a)/\(V,wr3.heap.size,1,O))/\(V,w5.heap.size,0,q0)/\(V,wc.heap.size,q0.toNat,tv))
     (first|(with_reducible first|exact B4.o _ AF.o|exact B4.o _ GJ.o|exact B4.o _ C6.o)|fail)
     (first
      |((go_at_call 277;(with_reducible refine(Q0g _ tv).mono ?_);rintro e' w7 ⟨rfl,E⟩;have B6:=qh (Q0 DD E);have GJ:=D (Q1 (λc=>c∈u.all) W6 w7) (Ay B6);have D9:=qh (AE.o.below B6);clear E))
      |((go_at_call 276;(with_reducible refine(Q9m D9 wc.heap.size 0 n n a O 1 tv (at1.getD a.toNat 0) DC DB (DA.o _ B6) ⟨B3.o,by have:=A3.o.1;omega⟩ AO.o.1 BI.o.2 AO.o.2 BI.o.1 (by unfold Qyn;omega) CF).mono ?_);rintro e' w8 ⟨rfl,y,C⟩;have AP:=qh y;have AF:=qh (GJ.o.trans C);clear y C))
      |fail)
    have C7:=qh (AS.o.frame AF B3);have DE:=qh (DP.o.step AF (λc z=> .inr z) (λb E=> .inl E));go_wp2
    go_roundw;case rel=>exact⟨j3+1,by have:=B5.o;omega,by go_num,(show Qn _ _ _ _ _ _ _ _ by rw[A4.o,AJ.o,if_pos rfl,GH.o];exact AP.o),(show J9 _ _ _ _ _ by rw[A4.o,AJ.o,if_pos rfl,GH.o];exact J6.o),C7.o,DE.o⟩
    simp[By];have:=B5.o;omega
   have AJ:=D (Q8r n (a,O)=Bm) (by unfold Q8r;rw[HQ.o];simp[AT]);have GK:(q1==0)=Bm:=by simpa using AT
   clear AT;go_wp2
   go_roundw;case rel=>exact⟨j3+1,by have:=B5.o;omega,by go_num,(show Qn _ _ _ _ _ _ _ _ by rw[A4.o,AJ.o];exact AE.o),(show J9 _ _ _ _ _ by rw[A4.o,AJ.o];exact AD.o),AS.o,DP.o⟩
   simp[By];have:=B5.o;omega
  have AJ:=D (Q8r n (a,O)=Bm) (by unfold Q8r;simp[DQ]);go_wp2
  go_roundw;case rel=>exact⟨j3+1,by have:=B5.o;omega,by go_num,(show Qn _ _ _ _ _ _ _ _ by rw[A4.o,AJ.o];exact AE.o),(show J9 _ _ _ _ _ by rw[A4.o,AJ.o];exact AD.o),AS.o,DP.o⟩
  simp[By];have:=B5.o;omega
 have J7:j3=P:=by omega
 have GL:=D (P.take j3=P) (Ao (by omega));rw[GL.o]at AG AD;have JA:¬((j3:Int)<P):=by omega
 have JB:=D (mX ((P.filter (Q8r n)).foldl (Q5s n at1) m2)=mX m) (by rw[Qhj (f:=Q5s n at1) (λ_ _=>rfl),IW.o,I9.o]);have JC:=D (Yq ((P.filter (Q8r n)).foldl (Q5s n at1) m2) l2) (AD.o.2.1);have DR:=D (∀i,0<=i->i<n.length->Qyn (at1.getD i 0)) (λi h0 h1=>by
  by_cases e:i=0
  ·rw[e,G6.o];unfold Qyn;omega
  have h:=AD.o.2.2 i (by omega) h1;unfold Qyn;omega)
 generalize (P.filter (Q8r n)).foldl (Q5s n at1) m2=m3 at *
 have GM:=qh (B7.o _ AG.o.fr);clear J7 AD;go_upto_region 23 with fail
 go_upto_region 24 with((go_at_call 278;(with_reducible refine(Qry X 0 (J8 n B) GM (Qkw A0 E0.1 AW)).mono ?_);rintro e wQ ⟨vQ,rfl,CG,GN⟩;rw[Qgw]at CG;obtain⟨pQ,cQ,rfl,-,-⟩:=CG.form;have GO:=qh CG;have DS:=qh GN;clear CG GN))
 have GP:=qh (AG.o.below DS);have GQ:=qh (CC.o.frame (X:=λ_=>False) (Ay DS) id);obtain⟨FQ,AH,A8,AA⟩:=GO.o.ow rfl;have DT:=D (Qjk Q5 FQ wc u wQ (A pQ (Y5 n) cQ) (Y5 n)) (⟨AH,A8,λq G=>⟨Au IZ (AA q G).1,λhm=>by have h1:=(AA q G).1;have h2:=AG.o.mem.lt _ (Aa _ hm);omega⟩⟩);have GR:=D (∀p∈Y5 n,(0<=p.1/\p.1<n)/\(0<=p.2/\p.2<n)) (λp hp=>Qcu A0 hp);have GS:(Y5 n).length<=600:=by have:=Q1s n n;rw[<-Q2i]at this;have:(Y5 n).length<=n:=this;have h9:n.length<=600:=(Yl A0).1.1;omega
 have CH:=qh GS;obtain⟨Q,GT⟩:∃Q:List Wd,Y5 n=Q:=⟨_,rfl⟩;rw[GT]at DT GR CH AZ⊢;clear AH A8 AA GO AG CC DN DS GT GS GL JA BL;have DU:=D (∀(L:List Wd),(mX (L.foldl (λmm p=>Ya mm (at1.getD p.1.toNat 0) (at1.getD p.2.toNat 0)) m3)).length=(mX m)+L.length/\Yq (L.foldl (λmm p=>Ya mm (at1.getD p.1.toNat 0) (at1.getD p.2.toNat 0)) m3) l2) (λL=>⟨by rw[Qh7 (λs p=>Q6o),JB.o],by
  have h:∀(L:List Wd) (m:Qyb),Yq m l2->Yq (L.foldl (λmm p=>Ya mm (at1.getD p.1.toNat 0) (at1.getD p.2.toNat 0)) m) l2:=by
   intro L;induction L with
   |nil=>exact λm h=>h
   |cons p L ih=>exact λm h=>ih _ h
  exact h L m3 JC⟩)
 obtain⟨GF,DV⟩:∃GF:Qyb->Wd->Qyb,GF=λmm p=>Ya mm (at1.getD p.1.toNat 0) (at1.getD p.2.toNat 0):=⟨_,rfl⟩;have JD:=qh DV;rw[<-DV]at AZ DU;clear DV;go_loopw [119] (λi wr=>∃(j:Nat) (S3:MS),j<=Q/\i=I Z j/\Hd (Qn wc S g 0 wr ((Q.take j).foldl GF m3) S3 l2)/\Hd (Q15 wr wc.heap.size at1)/\Hd (wc.heap.size∉S3.all)/\Hd (Qjk Q5 FQ wc S3 wr (A pQ Q cQ) Q)) (λi _=>Q.length-(By i).toNat);case atStart=>exact⟨0,u,Ak _,rfl,GP.o,GQ.o,B3.o,DT.o⟩
 clear GP GQ DT GM;rename Bh=>wr4
 obtain⟨j4,S4,KL,rfl,AU,DW,DX,GU⟩:=hrel;have KM:=AU.o.fr.size;by_cases CI:j4<Q
 ·obtain⟨bQ,oQ,rfl,hE⟩:=Rd.elem GU.o.1.rd j4 CI
  have AQ:=qh (GR.o Q[j4] (As CI));have A4:=D ((Q.take (j4+1)).foldl GF m3=Ya ((Q.take j4).foldl GF m3) (at1.getD Q[j4].1.toNat 0) (at1.getD Q[j4].2.toNat 0)) (by rw[An CI,Dj];show GF _ _=_;rw[JD.o]);have DY:=D ((mX ((Q.take j4).foldl GF m3)).length<=1000000) (by rw[(DU.o (Q.take j4)).1];have:=CH.o;have:(Q.take j4).length<=Q:=List.length_take_le' j4 Q;omega);generalize Q[j4]=pt at *
  generalize (Q.take j4).foldl GF m3=mj at *
  obtain⟨x1,x2⟩:=pt;obtain⟨e0,e1,F7,F8⟩:=At.word (t:=x1) (a:=x2) hE;simp only[Ty.sz,Bj]at e0 e1;have CY:(0:Int)<=j4:=by omega
  have CZ:(j4:Int)<Q:=by omega
  have GV:=qh CI;have KN:Q.length<=600:=CH.o;have JE:=qh AU.o.mem.lt;have KO:=Zl DW;clear hE;go_upto_region 26 with fail
  refine Qp λH A1=> ?_;have A2:=D (wr4,H) (by rw[A1];go_grown);have AC:H.heap[wr4.heap.size]?=R (.cells #[x1,x2] 143):=by rw[A1];exact Bg wr4 _
  have C0:=qh AC;obtain⟨⟨k0,k1⟩,-⟩:=Zj AC;have AK:=qh (AU.o.below A2);have AL:=qh (DW.o.frame (X:=λ_=>False) (Ay A2) id);have D5:=qh (GU.o.step (X:=λ_=>False) (Ay A2) (λ_ h=>h.elim) (λb h=> .inl h));obtain⟨⟨KP,KQ⟩,⟨KR,KS⟩⟩:(0<=x1/\x1<n)/\(0<=x2/\x2<n):=AQ.o;have c1:=AL.o.cell (i:=x1.toNat) (by rw[BK.o];omega);have c2:=AL.o.cell (i:=x2.toNat) (by rw[BK.o];omega);have CA:=qh (Cj (DR.o x1.toNat (by omega) (by omega)) (DR.o x2.toNat (by omega) (by omega)));have A4:=D ((Q.take (j4+1)).foldl GF m3=Ya mj (at1.getD x1.toNat 0) (at1.getD x2.toNat 0)) (A4.o);generalize at1.getD x1.toNat 0=t1 at *
  generalize at1.getD x2.toNat 0=t2 at *
  have JF:=qh AK.o.drew;have K:=D (¬(wr4.heap.size=g\/wr4.heap.size∈S4.all)/\¬(wc.heap.size=g\/wc.heap.size∈S4.all)) (⟨λh=>h.elim (λh=>by have:=A3.o.1;omega) (λh=>by have:=JE.o _ (Aa _ h);omega),λh=>h.elim (λh=>by have:=A3.o.1;omega) DX⟩);have BO:=D (Q1 (λc=>c=g\/c∈S4.all) H H.drew) ((Q1.refl _ _).drew);clear A1 AC e0 e1;have BP:=D (∀V,Q1 (λc=>c=g\/c∈S4.all) H V->((V,wr4.heap.size,0,x1)/\(V,wr4.heap.size,1,x2))/\(V,wc.heap.size,x1.toNat,t1)/\(V,wc.heap.size,x2.toNat,t2)) (λV C=>⟨⟨Qo C k0 K.o.1,Qo C k1 K.o.1⟩,Qo C c1 K.o.2,Qo C c2 K.o.2⟩)
  go_region_held3(λV=>((V,wr4.heap.size,0,x1)/\(V,wr4.heap.size,1,x2))/\(V,wc.heap.size,x1.toNat,t1)/\(V,wc.heap.size,x2.toNat,t2))
   (first|(with_reducible first|exact BP.o _ BQ.o|exact BP.o _ BO.o)|fail)
   (first
    |((go_at_call 279;(with_reducible refine(Qft JF t1 t2 CA.o.1 CA.o.2 DY).mono ?_);rintro e' w8 ⟨rfl,S5,y,C,BR⟩;have AP:=qh y;have GW:=qh C;have BQ:=qh (BO.o.trans (BR.mono λc z=>z.imp id λe=>Aa _ (Af _ e)));clear y C BR))
    |fail)
  go_wp2
  go_roundw;case rel=>
   refine⟨j4+1,S5,by have:=GV.o;omega,by go_num,(show Qn _ _ _ _ _ _ _ _ by rw[A4.o];exact AP.o),AL.o.frame BQ K.o.2, ?_, ?_⟩
   ·show _∉_
    exact λhm=>(GW.o.2.2.2 _ hm).elim DX λe=>by have:H.heap.size<=wc.heap.size:=e;have:=A2.o.size;omega
   show Qjk _ _ _ _ _ _ _;exact D5.o.step BQ (λc z=>z.imp (λe=>by rw[e];exact A3.o.1) id) GW.o.2.2.2
  simp[By];have:=GV.o;omega
 have JG:=D (Q.take j4=Q) (Ao (by omega));rw[JG.o]at AU;have KT:¬((j4:Int)<Q):=by omega
 have DY:=D ((mX (Q.foldl GF m3)).length<=1000000) (by rw[(DU.o Q).1];have:=CH.o;omega);generalize Q.foldl GF m3=m4 at *
 obtain⟨⟨q0,q1⟩,G⟩:∃q,Qe n (0,0)=q:=⟨_,rfl⟩;have HQ:=qh G;have AR:=D (((0:Int)<(J8 n B))/\(0:Int)<((aW (Q7 (J8 n B) 0)):Int)) (by
  have e:aW (Q7 (J8 n B) 0)=aW (Q7 n 0):=by unfold Q7;rw[Q8t]
  rw[J3,e];have:=(Q47 A0).2;exact⟨by omega,by show(0:Int)<((aW (Q9 n 0)):Int);omega⟩)
 have CD:=D ((0<=q0/\q0<n)/\Qyn q0/\Qyn q1) (by have JH:((0:Int),(0:Int))∈Qk n:=Yn.2 ⟨⟨by simp,by simp;omega⟩,by simp,by have:=(Q47 A0).2;show(0:Int)<((aW (Q9 n 0)):Int);omega⟩;obtain⟨p1,-,-⟩:=J1 A0 JH;rw[G]at p1;obtain⟨⟨BM,BN⟩,m3,m4⟩:=Yn.1 p1;simp only at BM BN m3 m4;have:=BB.o q0.toNat;have:=A5.o.1;unfold Q7 at m4;refine⟨⟨BM,BN⟩, ?_, ?_⟩<;>unfold Qyn<;>omega);have GX:=D (Q2e n B m b=(if(q1==0)=Bn then Ya m4 b (at1.getD q0.toNat 0)else m4)) (by rw[AZ.o,HQ.o]);clear G AZ;go_upto_region 28 with fail
 have JI:=D (∀V,Bp wr4.heap.size wr4 V->At Jl V X 0 (J8 n B)) (λV E=>B7.o _ (AU.o.below E).fr)
 go_upto_region 29 with(first
  |((go_at_call 280;(with_reducible refine jR (Qix wr4) λw6 E=> ?_);have CE:=qh E;clear E))
  |((go_at_call 207;(with_reducible refine jR (Qce w6 X 0 (J8 n B) (JI.o w6 CE) 0 0 (Int.le_refl 0) AR.o.1 (Int.le_refl 0) AR.o.2) λw7 E=> ?_);rw[Q3o,HQ.o];have B6:=qh (Q0 CE E);clear E))|fail)
 refine Qp λW6 AI=> ?_;have JJ:=D (w7,W6) (by rw[AI];go_grown);have A7:W6.heap[w7.heap.size]?=R (.cells #[q0,q1] 207):=by rw[AI];exact Bg w7 _
 obtain⟨⟨g0,B8⟩,-⟩:=Zj A7;have AB:=qh (Q0 B6 JJ);have AE:=qh (AU.o.below AB);have AS:=qh (DW.o.frame (X:=λ_=>False) (Ay AB) id);have GY:=D (∀(V:Bh) (m':Qyb) (S':MS) (l':List Nat),Qn wc S g 0 V m' S' l'->Qn w S g 0 V m' S' l') (λ_ _ _ _ h=>Qn.thruI (BT.o.below CT) h);by_cases AT:q1=0
 ·subst AT
  obtain⟨J4,J5⟩:=CD.o.1;have c6:=AS.o.cell (i:=q0.toNat) (by rw[BK.o];omega);have CF:=D (Qyn b/\Qyn (at1.getD q0.toNat 0)) (⟨by unfold Qyn;omega,DR.o _ (by omega) (by omega)⟩);generalize at1.getD q0.toNat 0=tv at *
  have GI:=qh AE.o.drew;have GZ:=AU.o.mem.lt;have KU:=B6.o.size;have KV:=Zl A7;have K:=D (¬(w7.heap.size=g\/w7.heap.size∈S4.all)/\¬(wc.heap.size=g\/wc.heap.size∈S4.all)) (⟨λh=>h.elim (λh=>by have:=A3.o.1;omega) (λh=>by have:=GZ _ (Aa _ h);omega),λh=>h.elim (λh=>by have:=A3.o.1;omega) DX⟩);have BO:=D (Q1 (λc=>c=g\/c∈S4.all) W6 W6.drew) ((Q1.refl _ _).drew);have BP:=D (∀V,Q1 (λc=>c=g\/c∈S4.all) W6 V->(V,w7.heap.size,0,q0)/\(V,wc.heap.size,q0.toNat,tv)) (λV C=>⟨Qo C g0 K.o.1,Qo C c6 K.o.2⟩);clear AI A7 GZ;go_upto_region 30 with fail
  go_region_held3(λV=>(V,w7.heap.size,0,q0)/\(V,wc.heap.size,q0.toNat,tv)) (first|(with_reducible first|exact BP.o _ BQ.o|exact BP.o _ BO.o)|fail)
   (first
    |((go_at_call 279;(with_reducible refine(Qft GI b tv CF.o.1 CF.o.2 DY).mono ?_);rintro e' w8 ⟨rfl,S5,y,C,BR⟩;have AP:=qh y;have BQ:=qh (BO.o.trans (BR.mono λc z=>z.imp id λe=>Aa _ (Af _ e)));clear y C BR))
    |fail)
  go_wp2_with fail
  go_end0
  exact⟨rfl,S5,l2,by rw[GX.o];exact GY.o _ _ _ _ AP⟩
 have GK:(q1==0)=Bm:=by simpa using AT
 go_wp2_with fail
 go_end0
 exact⟨rfl,S4,l2,by rw[GX.o,GK,if_neg (by decide),<-AI];exact GY.o _ _ _ _ AE⟩
def Qqq(bk:List Qy0)(p:Ye)(k n:Nat)(w:Bh)(S:MS)(g:Nat)(e:Ending)(w':Bh):Prop:=
 ((Vb bk p k).2≠0->e=.returned (.tuple #[(),jN,I Z (Vb bk p k).2])/\(w,w'))/\
 ((Vb bk p k).2=0->(n:Int)+Zk (Q19 p k)<(Vb bk p k).1->e=.returned (.tuple #[(),jN,I Z 4])/\(w,w'))/\
 ((Vb bk p k).2=0->¬((n:Int)+Zk (Q19 p k)<(Vb bk p k).1)->∃v S' l',e=.returned (.tuple #[(Q19 p k),v,()])/\Qn w S g 0 w' (Q2m bk p k).1 S' l'/\Je Z7 w S' w' v (Q2m bk p k).2)
theorem Qpd(bk m a b):Yz bk m 7 a b=(V2 bk (Qd m a) (Q7 (mC m) a) b,[]):=by
 unfold Yz;simp only[];rw[if_pos (by rfl)]
theorem Qst(A7:Bh)(w)(BM:Bp A7 A7 w)(p0 c0)(bk:List Qy0)(BN:Rd (.slice Jl) A7 [A p0 bk c0] bk)(EG:bk<=Bu)(CQ:∀n∈bk,Yd n=Bn)(g p k)(n:Nat){S}(h:Zh w g 0 (Q5x p (wX (Q3 p k))) S)(hS:∀b∈g::S.all,A7<=b)(B4:w.cell? (g,5)=R (A p0 bk c0))(hn:(wX (Q3 p k))=n+1)(l)(A1:Qch bk p k l):
  Calls prog 234 #[(g,0),n] w (Qqq bk p k l w S g):=by
 have HM:=qh h;have HN:=qh hn;have A2:=qh A1;have HS:=qh hS;have CR:=qh BM;have EH:=qh (BN.kb BM);have EI:=qh BN;have CS:=qh EG;have CT:=qh CQ;obtain⟨px,cx,B5,-,-,-,c4,-,-,-,AK⟩:=h.head;replace c4:w.cell? (g,4)=R (A px (wX (Q3 p k)) cx):=c4;replace B5:w.cell? (g,0)=R (A (R (S.cb,S.o)) (mC (pM p)) S.cap):=B5;replace AK:Ow (.slice Q5) w [A px (wX (Q3 p k)) cx] (wX (Q3 p k)) S.Fx:=AK;obtain⟨bx,ox,rfl,hE⟩:=Rd.elem AK.rd n (by omega);obtain⟨CU,-,G8,cur,T,EJ,BO,-,-⟩:=AK.flatBlk rfl (by omega);have EK:=qh AK;have EL:=λq=>Q0u.free (T:=T) ⟨cur,BO⟩ q;have EM:=Zl BO;have B6:=qh CU;have EN:=D ((wX (Q3 p k))[n]'(by omega)=Yg (Q3 p k)) (by have e:(wX (Q3 p k)).length-1=n:=(by omega);unfold Yg;rw[Ab,e,Ad (by omega)];rfl);rw[EN.o]at hE;obtain⟨⟨q0,q1⟩,hq⟩:∃r,Yg (Q3 p k)=r:=⟨_,rfl⟩;rw[hq]at hE;have HQ:=qh hq;obtain⟨e0,e1,i0,i1⟩:=hE.word;simp only[Ty.sz,Bj]at e0 e1;have G9:=qh (Cj i0 i1);have CV:=qh (Cj e0 e1);have A6:=Qkn A1.rok;rw[hq]at A6;have EO:=qh A6;have B7:=J0 A1.rok;rw[hq]at B7
 have BP:=qh (show Zm (aK (Q7 (mC (pM p)) q0)) (aL (Q7 (mC (pM p)) q0))=Bn/\Zm (aK (Q7 (mC (pM p)) q1)) (aL (Q7 (mC (pM p)) q1))=Bn from
  ⟨(Q2r (A1.cells _ (by have:=A6.1;simp only at this;omega)) B7.2.1).2.1,(Q2r (A1.cells _ (by have:=A6.2;simp only at this;omega)) B7.2.2).2.1⟩)
 have EP:=qh (A1.small q0 A6.1.1 A6.1.2);have EQ:=qh (A1.small q1 A6.2.1 A6.2.2);have ER:=D (Qu (mC (pM p)) (q0,q1)=7->0<=aV (xM (mC (pM p)) (q0,q1))/\0<=aL (xM (mC (pM p)) (q0,q1))/\aL (xM (mC (pM p)) (q0,q1))<=8) (by have:=Q8g A1;rw[hq]at this;exact λe=>by have:=this e;omega);have ES:=D ((aW (Q7 (mC (pM p)) q0)).length<=100000000) (by have:=EP.o;omega);have ET:=D ((aW (Q7 (mC (pM p)) q1)).length<=100000000) (by have:=EQ.o;omega);have CW:=D (Qyl (mC (Q5x p (wX (Q3 p k)))) (q0,q1)) (EO.o);have EU:=D (Qu (mC (Q5x p (wX (Q3 p k)))) (q0,q1)=7->0<=aV (xM (mC (Q5x p (wX (Q3 p k)))) (q0,q1))/\0<=aL (xM (mC (Q5x p (wX (Q3 p k)))) (q0,q1))/\aL (xM (mC (Q5x p (wX (Q3 p k)))) (q0,q1))<=8) (ER.o);have CX:=D ((aW (Q7 (mC (Q5x p (wX (Q3 p k)))) q0)).length<=100000000) (ES.o);have CY:=D ((aW (Q7 (mC (Q5x p (wX (Q3 p k)))) q1)).length<=100000000) (ET.o);have CZ:=D (Zm (aK (Q7 (mC (Q5x p (wX (Q3 p k)))) q0)) (aL (Q7 (mC (Q5x p (wX (Q3 p k)))) q0))=Bn/\Zm (aK (Q7 (mC (Q5x p (wX (Q3 p k)))) q1)) (aL (Q7 (mC (Q5x p (wX (Q3 p k)))) q1))=Bn) (BP.o);have EV:=qh B4;have GC:=A1.len;have EW:=D (l.length<=1500) (by have:=A1.freeLen;have:=List.countP_le_length (p:=λc=>aK c==0) (l:=mC (pM p));unfold Qx at *;omega);have B8:=D (At Qq w g 0 (Q5x p (wX (Q3 p k)))) (h.at);have HC:=D (Vb bk p k=Zt bk (mC (pM p)) (q0,q1)/\Q19 p k=Qu (mC (pM p)) (q0,q1)) (by unfold Vb Q19;rw[hq];exact⟨rfl,rfl⟩);have GD:=A1.xlen;rw[hn]at c4;have GE:(n:Int)<((n+1:Nat):Int):=by omega
 have AQ:mC (Q5x p (wX (Q3 p k)))=mC (pM p):=rfl;have GF:(0:Int)<=n:=by omega
 have BQ:g<w:=h.blk.lt;clear h A1 hS BM BN CQ AK hE i0 i1 A6 B7 CU BO hq;go_enter func234,ntmps234;go_upto_region 2 with fail
 refine Qp λW1 BR=> ?_;have AR:=D (w,W1) (by rw[BR];go_grown);have BS:=D (W1,oC w.heap.size #[q0,q1] 143) (by rw[BR];exact Bg w _);clear BR e0 e1;obtain⟨⟨O,P⟩,-⟩:=Zj BS;have D0:=jC AR B4;go_upto_region 3 with((go_at_call 247;(with_reducible refine jR (Qoa g (Q5x p (wX (Q3 p k))) (B8.o.kb AR) p0 c0 bk D0 (EH.o.kb AR) CS CT q0 q1 CW CX CY CZ.o.1 CZ.o.2 EU) λW2 E=> ?_);rw[AQ];have B9:=qh (Q0 AR E);have D1:=qh (Qf BS E);clear E))
 have GG:=qh (jC B9 B4);clear O P AR BS D0;obtain⟨⟨O,P⟩,-⟩:=Zj D1;obtain⟨G,BT⟩:∃G,Qu (mC (pM p)) (q0,q1)=G:=⟨_,rfl⟩;obtain⟨⟨AL,AS⟩,BA⟩:∃c,Zt bk (mC (pM p)) (q0,q1)=c:=⟨_,rfl⟩;rw[BT,BA]at HC;rw[BA];simp only;have A0:=qh BT;have AM:=qh BA;clear BT BA;by_cases BB:AS=0;rotate_left
 ·have GH:(AS !=0)=Bn:=by simpa using BB
  have D2:=qh BB;clear BB;go_wp2_with fail
  refine Ce (v:=.tuple #[(),jN,AS]) (by simp[results,results234,go_sem];first|rfl|done) rfl ?_;exact⟨λ_=>⟨by rw[HC.o.1],B9.o⟩,λe=>absurd ((by rw[HC.o.1]at e;exact e):AS=0) D2,λe=>absurd ((by rw[HC.o.1]at e;exact e):AS=0) D2⟩
 subst BB;have EX:G≠8:=λe=>by have Y:=AM.o;unfold Zt at Y;rw[A0.o,e]at Y;simp at Y
 obtain⟨⟨B,C⟩,hf⟩:∃f,Zi (mC (pM p)) (q0,q1)=f:=⟨_,rfl⟩;have D3:=D (Ending.returned (.tuple #[I Z (Q07 (Q7 (mC (Q5x p (wX (Q3 p k)))) q0) (Q7 (mC (Q5x p (wX (Q3 p k)))) q1)).1,I Z (Qxc (mC (Q5x p (wX (Q3 p k)))) (q0,q1)).1,I Z (Qxc (mC (Q5x p (wX (Q3 p k)))) (q0,q1)).2])=.returned (.tuple #[G,B,C])) (by obtain⟨Y,h2⟩:=Qr3 (cs:=mC (pM p)) (p:=(q0,q1)) BP.o.1 BP.o.2;have h3:=h2 (by rw[A0.o];exact EX);rw[hf]at h3;rw[A0.o]at Y;rw[AQ,Y,h3]);have BC:=qh hf;have D4:=D (Qx (mC (pM p))=l) (A2.o.freeLen.symm);have D5:=D ((mC (Q5x p (wX (Q3 p k)))).length<=1000000) (by rw[AQ];omega);have GI:(l:Int)<=1500:=by have:=EW.o;omega
 clear hf;go_upto_region 5 with fail
 (refine Z9 (λw'=>(W2,w')) (by kernel_rfl) (by kernel_rfl) (Ai _ _).drew ?_;(repeat(first|go_big_quiet_skip|(go_big_quiet_want;apply Exists.intro;refine⟨λw' hC=> ?_, ?_⟩;(focus(have GJ:=jC hC O;have GK:=jC hC P;go_simp;first|done|with_reducible rfl|(((go_at_call 248;(with_reducible refine(Qds g 0 (Q5x p (wX (Q3 p k))) (B8.o.kb (Q0 B9 hC)) q0 q1 CW CX CY).mono ?_);exact λe w4 ⟨he,E⟩=>⟨he.trans D3,Q0 hC E⟩)))));simp only[Act.put,List.setIfInBounds_toArray,Cv,List.set_cons_succ];go_big_quiet_on)));refine wpQuiet_nil ?_;intro wz hz)
 have A9:=qh (Q0 B9 hz);rename Bh=>W5
 clear O P D1 hz;have AA:=Qf2 (cs:=mC (pM p)) (q0:=q0) (q1:=q1) (by have:=(J0 A2.o.rok).1;rw[HQ.o]at this;exact this) l (by have:=A2.o.nin;rw[HQ.o]at this;exact this);have AN:xM (mC (pM p)) (q0,q1)=Q7 (mC (pM p)) B/\yM (mC (pM p)) (q0,q1)=Q7 (mC (pM p)) C:=by unfold xM yM;rw[BC.o];exact⟨rfl,rfl⟩
 rw[BC.o]at AA;have AO:=qh AA;have D6:=D (AL<=l+Zk G->(1<=G/\G<=7)/\(G≠7->Qi9 G (Q7 (mC (pM p)) B) (Q7 (mC (pM p)) C) l)/\(G=7->Qbz bk (Q7 (mC (pM p)) B) l)) (λe2=>by
  have hr:=A2.o.rok;rw[HQ.o]at hr;have h0:(Zt bk (mC (pM p)) (q0,q1)).2=0:=by rw[AM.o]
  obtain⟨Y,h2⟩:=Qfl bk A2.o.cells hr h0 (n:=l) (by rw[AM.o,A0.o];exact e2);rw[A0.o,AN.1,AN.2]at h2;rw[A0.o]at Y;refine⟨Y,h2,λh7=> ?_⟩;rw[<-AN.1];refine Qlc (by rw[A0.o];exact h7) h0 ?_ CT (by rw[AM.o];rw[h7]at e2;exact e2);have:=Q8g A2;rw[HQ.o]at this;exact this (by rw[A0.o];exact h7))
 have AT:=D (Q2m bk p k=Yz bk (Q5x p ((wX (Q3 p k)).take n)) G B C) (by
  have e:(wX (Q3 p k)).length-1=n:=by have:=HN.o;omega
  unfold Q2m;rw[HQ.o,e,A0.o,BC.o])
 have BD:=qh (show((aD (Q7 (mC (pM p)) B)).length<=4/\(aW (Q7 (mC (pM p)) B)).length<=3)/\((aD (Q7 (mC (pM p)) C)).length<=4/\(aW (Q7 (mC (pM p)) C)).length<=3)from
  ⟨A2.o.small B AA.1.1.1 AA.1.1.2,A2.o.small C AA.1.2.1 AA.1.2.2⟩)
 have BE:=jC A9 c4;have BU:=jC A9 B5;have EY:g<W5:=Ap BQ A9.o.size;clear c4 B5 AA B4;have EZ:=D (G=5->aK (Q7 (mC (pM p)) C)=7\/aK (Q7 (mC (pM p)) C)=8) (λe5=>by
  have hr:=A2.o.rok;rw[HQ.o]at hr;rcases Q5n A2.o.cells hr with h8|⟨-,he,-⟩
  ·rw[A0.o]at h8;omega
  rw[A0.o,e5]at he;have hk:=Q4t (ka:=aK (xM (mC (pM p)) (q0,q1))) (la:=aL (xM (mC (pM p)) (q0,q1))) (kb:=aK (yM (mC (pM p)) (q0,q1))) (lb:=aL (yM (mC (pM p)) (q0,q1))) (by rw[he];omega);rw[he]at hk;rw[<-AN.2];omega)
 have D7:=D (G=7->V3 (Yc bk (aV (Q7 (mC (pM p)) B)))+aL (Q7 (mC (pM p)) B)<=8) (λe7=>by
  have Y:=AM.o;unfold Zt at Y;rw[A0.o,e7,AN.1]at Y;simp only[Int.reduceBEq,Bool.false_eq_true,if_false,if_true]at Y;split at Y
  ·simp at Y
  split at Y
  ·simp at Y
  omega)
 clear AN;have BV:=D (Zk G=2-Q22 (G==7)) (by unfold Zk Q22;split<;>simp_all);obtain⟨tr,AB⟩:∃t,Q22 (G==7)=t:=⟨_,rfl⟩;rw[AB]at BV;have HT:=qh AB;have F0:0<=tr/\tr<=1:=by rw[<-AB];unfold Q22;split<;>simp
 obtain⟨GL,GM⟩:=F0;obtain⟨b7,D8⟩:∃b,(G==7)=b:=⟨_,rfl⟩;rw[D8]at HT;clear AB;by_cases BF:(l:Int)+Zk G<AL
 ·have F1:(l:Int)+2-tr<AL:=by have:=BV.o;omega
  have BG:=qh BF;clear BF;go_wp2_with(first|((go_at_call 249;(with_reducible refine jR (Qdy g 0 (Q5x p (wX (Q3 p k))) (B8.o.kb A9) D5) λW6 E=> ?_);rw[AQ,D4.o];have AC:=qh (Q0 A9 E);clear E))|((go_at_call 69;(with_reducible refine jX (Q3f _) ?_);rw[HT.o]))|fail)
  refine Ce (v:=.tuple #[(),jN,I Z 4]) (by simp[results,results234,go_sem];first|rfl|done) rfl ?_;exact⟨λe=>absurd (by rw[HC.o.1]) e,λ_ _=>⟨rfl,AC.o⟩,λ_ e=>absurd (by rw[HC.o.1,HC.o.2];exact BG.o) e⟩
 have F1:¬((l:Int)+2-tr<AL):=by have:=BV.o;omega
 have BG:=qh BF;have BH:=qh (D6.o (by omega));clear BF D6;go_upto_region 9 with(first|((go_at_call 249;(with_reducible refine jR (Qdy g 0 (Q5x p (wX (Q3 p k))) (B8.o.kb A9) D5) λW6 E=> ?_);rw[AQ,D4.o];have AC:=qh (Q0 A9 E);have BE:=jC E BE;have BU:=jC E BU;have F2:g<W6:=Ap EY E.size;clear E))|((go_at_call 69;(with_reducible refine jX (Q3f _) ?_);rw[HT.o]))|fail)
 rename Bh=>W6
 have k0:W6.cell? (bx,ox+n * 2)=R (I Z q0):=jC AC CV.o.1;have k1:W6.cell? (bx,ox+n * 2+1)=R (I Z q1):=jC AC CV.o.2;have D9:=λq=>((Ay (X:=λ_=>False) AC).frozen EM (λh=>h) q).trans (EL q);have BI:bx≠g:=λe=>by have:=(Ar.1 HM.o.nodup).1;exact this (Aa _ (Af _ (by rw[B6.o,e];exact Ij _)))
 have DA:=λq=>HM.o.blk.free q;have DB:=D (∀W7,W7=((W6.setCell (bx,ox+n * 2) (I Z 0)).setCell (bx,ox+n * 2+1) (I Z 0)).drew->(W7,g,4,A (R (bx,ox)) (n+1) cx)/\(∀q,W7.frozen? ⟨g,q,N⟩=Bm)/\g<W7.heap.size/\Q1 (λc=>c=bx) w W7/\Qc bx (ox+n * 2) (cx * 2) w W7) (λW7 e=>by
  have hF:Q1 (λc=>c=bx) W6 W7:=by rw[e];exact(Q23 (Q23 (Q1.refl _ _))).drew
  have DC:Q1 (λc=>c=bx) w W7:=(Ay AC).trans hF;refine⟨Qo hF BE (λe=>BI e.symm),λq=>(DC.frozen BQ (λe=>BI e.symm) q).trans (DA q),Ap F2 hF.size,DC, ?_⟩;rw[e];have Y:2<=cx * 2:=by omega
  exact((((Qc.refl bx (ox+n * 2) (cx * 2) w).fr (Ay (X:=λ_=>False) AC) (λh=>h)).set (ox+n * 2) (by omega) _).set (ox+n * 2+1) (by omega) _).drew)
 have F3:n+1<=cx:=by have:=HN.o;omega
 have GN:IntKind.i64.wrap ((n:Int)+1)=(n:Int)+1:=by have:=HN.o;simp only[IntKind.wrap_i64];omega
 go_upto_region 10 with((go_at_call 250;(with_reducible refine jR (Qpu bx ox n cx F3 EJ k0 k1 D9) λW7 DD=> ?_);have AD:=qh (DB.o _ DD);have d4:=AD.o.1;have df:=AD.o.2.1;have F4:=AD.o.2.2.1;clear DD))
 refine Qp λK AU=> ?_;have BW:=D (Q1 (λc=>c=g\/c=bx) w K) (by rw[AU];exact V1 (AD.o.2.2.2.1.mono λc hc=> .inr hc) (.inl rfl) _);have BX:=D (Qc g 4 1 w K) (by rw[AU];exact(Qc.of_frame AD.o.2.2.2.1 (λe=>BI e.symm) _ _).set 4 (by omega) _);have DE:=D (Qc bx (ox+n * 2) (cx * 2) w K) (by rw[AU];exact AD.o.2.2.2.2.fr (Zw _ _ _ _) (λe=>BI e));have F5:=D (K,g,4,A (R (bx,ox)) n cx) (by rw[AU];exact Bx _ _ _ d4);have A3:=D (Qn w S g 0 K (Q5x p ((wX (Q3 p k)).take n)) S l) (by
  have DF:((wX (Q3 p k)).take n)=n:=by rw[Cf];have:=HN.o;omega
  have ho:=EK.o.initSet (m:=n) rfl (by have:=HN.o;omega) (by have:=HN.o;omega) DE;have hm:=HM.o.turnX (w2:=K) (xs:=(wX (Q3 p k)).take n) (px:=R ⟨bx,ox,N⟩) (cx:=cx) (Fx:=S.Fx) (BW.o.mono λc hc=>hc.imp id λe=>by rw[B6.o,e];exact Ij _) BX (by rw[DF];exact F5.o) (by rw[DF];exact ho) (by rw[B6.o];simp) (λb E=> .inl E);exact⟨hm,A2.o.free,Q4e.refl _ _,BW.o.mono λc hc=>hc.imp id λe=>Aa _ (Af _ (by rw[B6.o,e];exact Ij _)),BQ,BX.o.wide (by omega) (by omega)⟩)
 clear AU d4 df F4 BE BU k0 k1 D9 DA AD DB BW BX DE;have GO:g<K:=A3.o.mem.blk.lt;have GP:=A3.o.mem.ne;obtain⟨_,_,m0,-,-,-,-,-,-,-,-⟩:=A3.o.mem.head;replace m0:K.cell? (g,0)=R (A (R (S.cb,S.o)) (mC (pM p)) S.cap):=m0;have DG:=A3.o.mem.cells.bound;unfold Bu at DG;obtain⟨DH,GQ⟩:=DG;replace DH:(mC (pM p))<=S.cap:=DH;have F6:=AO.o.1.1;have F7:=AO.o.1.2;obtain⟨us,F8,DI,AV⟩:=A3.o.mem.cell (i:=B) (by show B.toNat<(mC (pM p));omega);obtain⟨ut,F9,AB,AW⟩:=A3.o.mem.cell (i:=C) (by show C.toNat<(mC (pM p));omega);replace AV:Ow Q4 K us (Q7 (mC (pM p)) B) (S.Fs.getD B.toNat []):=AV;replace AW:Ow Q4 K ut (Q7 (mC (pM p)) C) (S.Fs.getD C.toNat []):=AW;have BY:=qh (A3.o.mem.o (i:=B) (by show B.toNat<(mC (pM p));omega));have BZ:=qh (A3.o.mem.o (i:=C) (by show C.toNat<(mC (pM p));omega));have C0:=D (Q7 (mC (Q5x p ((wX (Q3 p k)).take n))) B=Q7 (mC (pM p)) B) (rfl);have DJ:=D (Q7 (mC (Q5x p ((wX (Q3 p k)).take n))) C=Q7 (mC (pM p)) C) (rfl);generalize Q7 (mC (pM p)) B=x at *
 generalize Q7 (mC (pM p)) C=y at *
 generalize S.Fs.getD B.toNat []=GA at *
 generalize S.Fs.getD C.toNat []=GB at *
 obtain⟨d,U,H,j,L⟩:=x;obtain⟨s,ly,vy,u,J⟩:=y;obtain⟨pd,cd,pw,cw,Gd,Gw,rfl,-⟩:=AV.agent;obtain⟨pe,ce,pv,cv,Ge,Gv,rfl,-⟩:=AW.agent;have C1:=qh AV;have C2:=qh AW;obtain⟨u0,u1,u2,u3,u4⟩:=Q5v DI;obtain⟨t0,t1,t2,t3,t4⟩:=Q5v AB
 have C3:=D (∀W,Bp K K W->W.cell? (g,0)=_/\W.cell? (S.cb,S.o+B.toNat * 5)=_/\W.cell? (S.cb,S.o+B.toNat * 5+1)=_/\W.cell? (S.cb,S.o+B.toNat * 5+2)=_/\W.cell? (S.cb,S.o+B.toNat * 5+3)=_/\W.cell? (S.cb,S.o+B.toNat * 5+4)=_/\W.cell? (S.cb,S.o+C.toNat * 5)=_/\W.cell? (S.cb,S.o+C.toNat * 5+1)=_/\W.cell? (S.cb,S.o+C.toNat * 5+2)=_/\W.cell? (S.cb,S.o+C.toNat * 5+3)=_/\W.cell? (S.cb,S.o+C.toNat * 5+4)=_) (λW E=>have hk:=Am E
  ⟨hk.cell _ _ m0,hk.cell _ _ u0,hk.cell _ _ u1,hk.cell _ _ u2,hk.cell _ _ u3,hk.cell _ _ u4,hk.cell _ _ t0,hk.cell _ _ t1,hk.cell _ _ t2,hk.cell _ _ t3,hk.cell _ _ t4⟩)
 obtain⟨FA,FB⟩:=F6;obtain⟨C4,FC⟩:=F7;have GR:=A3.o.mem.cells.blk.lt;clear F8 F9 DI AB AV AW m0 u0 u1 u2 u3 u4 t0 t1 t2 t3 t4;obtain⟨m0,u0,u1,u2,u3,u4,t0,t1,t2,t3,t4⟩:=C3.o K (Ai _ _);go_cut [16,17] (λx y wx=>∃(ba bb:Nat),x=.pointer (R (ba,0))/\y=.pointer (R (bb,0))/\ba≠bb/\(K<=ba/\K<=bb)/\(wx,oC ba #[d,U,H,A pd j cd,A pw L cw] 172)/\(wx,oC bb #[s,ly,vy,A pe u ce,A pv J cv] 172)/\(K,wx))
 case first=>
  go_region_held3(λW=>(W,g,0,A (R (S.cb,S.o)) (mC (pM p)) S.cap)/\(W,S.cb,S.o+B.toNat * 5,d)/\(W,S.cb,S.o+B.toNat * 5+1,U)/\(W,S.cb,S.o+B.toNat * 5+2,H)/\(W,S.cb,S.o+B.toNat * 5+3,A pd j cd)/\(W,S.cb,S.o+B.toNat * 5+4,A pw L cw)/\(W,S.cb,S.o+C.toNat * 5,s)/\(W,S.cb,S.o+C.toNat * 5+1,ly)/\(W,S.cb,S.o+C.toNat * 5+2,vy)/\(W,S.cb,S.o+C.toNat * 5+3,A pe u ce)/\(W,S.cb,S.o+C.toNat * 5+4,A pv J cv))
   (((refine C3.o _ ?_);go_grown)) (first|fail)
  all_goals(go_wp2;go_meet)
  ·exact⟨_,_,rfl,rfl,by omega,⟨by omega,by omega⟩,(Jt K _ _ _ _).1,(Jt K _ _ _ _).2,by go_grown⟩
  exact⟨_,_,rfl,rfl,by omega,⟨by omega,by omega⟩,(Jt K _ _ _ _).2,(Jt K _ _ _ _).1,by go_grown⟩
 case rest=>
 obtain⟨ba,bb,rfl,rfl,GS,⟨GT,GU⟩,C5,C6,BJ⟩:=hcut;have C7:=qh C5;have C8:=qh C6;have DK:=qh (A3.o.below BJ);have C9:=qh (C1.o.kept λb E=>BJ.block b (C1.o.lt b E));have CA:=qh (C2.o.kept λb E=>BJ.block b (C2.o.lt b E));have FD:ba<wc:=Zl C5;have FE:bb<wc:=Zl C6;have CB:=D (∀V,Q1 (λc=>c=g\/c=S.cb) wc V->V.heap[ba]?=wc.heap[ba]?/\V.heap[bb]?=wc.heap[bb]?/\Ow Q4 V [d,U,H,A pd j cd,A pw L cw] (d,U,H,j,L) GA/\Ow Q4 V [s,ly,vy,A pe u ce,A pv J cv] (s,ly,vy,u,J) GB) (λV hf=>by
  refine⟨hf.block _ FD (λe=>e.elim (λe=>by omega) λe=>by omega),hf.block _ FE (λe=>e.elim (λe=>by omega) λe=>by omega),C9.o.frame hf λb E=>⟨C9.o.lt b E,λe=> ?_⟩,CA.o.frame hf λb E=>⟨CA.o.lt b E,λe=> ?_⟩⟩
  ·exact(BY.o b E).2 (e.elim (λe=>e▸Ae) λe=>Aa _ (e▸Ae))
  exact(BZ.o b E).2 (e.elim (λe=>e▸Ae) λe=>Aa _ (e▸Ae)))
 clear C5 C6 BJ m0 u0 u1 u2 u3 u4 t0 t1 t2 t3 t4 C3;have FF:=D (B<(mC (Q5x p ((wX (Q3 p k)).take n)))) (FB);have BK:=D (C<(mC (Qd (Q5x p ((wX (Q3 p k)).take n)) B))/\C.toNat∉B.toNat::l) (⟨by rw[Za];exact FC,by simp only[List.mem_cons,not_or];exact⟨λe=>AO.o.2.1 (by omega),AO.o.2.2.2⟩⟩);go_upto_region 12 with((go_at_call 233;(with_reducible refine(Qdk DK B FA FF AO.o.2.2.1).mono ?_);rintro e DL ⟨rfl,M,hf⟩;have A8:=qh M;have CC:=qh hf;clear M hf))
 have CD:=qh (CB.o _ CC);have DM:=D ((mC (Q5x p ((wX (Q3 p k)).take n))).length=(mC (pM p))) (rfl);have DN:=D ((mX (Q5x p ((wX (Q3 p k)).take n))).length<=1500) (by show((wX (Q3 p k)).take n).length<=1500;rw[Cf];have:=HN.o;omega);obtain⟨⟨r0,r1,r2,r3,r4⟩,-⟩:=Yf (CD.o.1.trans C7);obtain⟨⟨s0,s1,s2,s3,s4⟩,-⟩:=Yf (CD.o.2.1.trans C8);have FG:=D (w,g,5,A p0 bk c0) (EV.o);generalize Q5x p ((wX (Q3 p k)).take n)=mm at *
 have GV:K.heap.size<=wc:=by omega
 subst D8;by_cases h7:G=7
 ·subst h7
  have FH:(0<=H/\H<bk)/\Yd (Yc bk H)=Bn/\(0<=U/\U<=8)/\(Yc bk H).length+(Zg (Yc bk H)).length<=l+2:=BH.o.2.2 rfl;obtain⟨⟨FI,FJ⟩,AX,⟨DO,DP⟩,FK⟩:=FH;have GW:=Qq0 AX;have DQ:Q05 (Yc bk H) U=Bn:=by rw[Q9k AX DO DP];exact decide_eq_true (D7.o rfl)
  have FL:=qh (show Q2e (Yc bk H) U (Qd mm B) C=V2 bk (Qd mm B) (d,U,H,j,L) C from
   Qdf (x:=(d,U,H,j,L)) AX A8.o.free (by simp only[Br];omega) C4 BK.o.2 bk rfl)
  have FM:DL.cell? (g,5)=R (A p0 bk c0):=Q1m FG HM.o.blk A8.o.keep (by omega);have FN:=D (∀b∈g::(S.put B []).all,A7<=b) (λb E=>HS.o b ((Aq.1 E).elim (λe=>e▸Ae) λh=>Aa _ ((Y0 h).elim (λh=>by simp at h) id)));have FO:=D (A7,DL) (CR.o.trans (A8.o.fr.below CR.o.size (λc hc=>HS.o c (hc.elim (λe=>e▸Ae) λh=>Aa _ h))));have CE:=D (C<(mC (Qd mm B))/\(mC (Qd mm B)).length<=1000000/\(mX (Qd mm B)).length<=100000) (⟨BK.o.1,by rw[Za,DM.o];omega,by show(mX mm).length<=100000;have:=DN.o;omega⟩);have FP:=D ((Yc bk H).length-1+(Zg (Yc bk H)).length<=(B.toNat::l)) (by simp only[Br];omega);have DR:=qh (Cj AX DQ);clear AX DQ FK;go_wp2_with((go_at_call 251;(with_reducible refine(Qqb A7 _ FO g A8.o.mem A8.o.free FN p0 c0 bk EI FM CS d U H j L pd pw cd cw C (Yc bk H) ⟨FI,FJ⟩ rfl DR.o.1 ⟨DO,DP⟩ DR.o.2 FP ⟨C4,CE.o.1⟩ CE.o.2.1 CE.o.2.2).mono ?_);rintro e a ⟨rfl,S',l',M⟩;have z:=qh M;clear M))
  refine Ce (v:=.tuple #[I Z 7,jN,()]) (by simp[results,results234,go_sem];first|rfl|done) rfl ?_;refine⟨λe=>absurd (by rw[HC.o.1]) e,λ_ e=>absurd (show(l:Int)+Zk 7<AL by rw[HC.o.1,HC.o.2]at e;exact e) (Int.not_lt.2 BG),λ_ _=>⟨A N 0 0,S',l',by rw[HC.o.2], ?_, ?_⟩⟩
  ·rw[AT.o,Qpd,C0.o,<-FL.o]
   with_reducible exact A8.o.thruI z.o
  rw[AT.o,Qpd];with_reducible exact Je.empty
 have GX:(G==7)=Bm:=by simpa using h7
 have HP:=qh (BH.o.2.1 h7);have FQ:=qh BH.o.1;have AP:=qh (Qc7 bk mm G B C h7);rw[C0.o,DJ.o]at AP;go_upto_region 15 with fail
 go_upto_region 16 with((go_at_call 233;(with_reducible refine(Qdk A8 C C4 BK.o.1 BK.o.2).mono ?_);rintro e a ⟨rfl,M,hf⟩;have z:=qh M;have DS:=qh hf;clear M hf))
 have AY:=qh (CB.o _ (CC.o.trans DS));clear r0 r1 r2 r3 r4 s0 s1 s2 s3 s4;obtain⟨⟨r0,r1,r2,r3,r4⟩,-⟩:=Yf (AY.o.1.trans C7);obtain⟨⟨s0,s1,s2,s3,s4⟩,-⟩:=Yf (AY.o.2.1.trans C8);have AZ:=D ((mC (Qd (Qd mm B) C)).length<=1000000/\(mX (Qd (Qd mm B) C)).length<=1000000) (⟨by rw[Za,Za,DM.o];omega,by show(mX mm).length<=1000000;have:=DN.o;omega⟩);have AE:=D ((∀c∈GA,c∉g::((S.put B []).put C []).all)/\∀c∈GB,c∉g::((S.put B []).put C []).all) (by
  refine⟨λc hc hm=>(BY.o c hc).2 ?_,λc hc hm=> ?_⟩
  ·rcases Aq.1 hm with e|hm
   ·exact e▸Ae
   exact Aa _ ((Y0 hm).elim (λh=>by simp at h) id)
  refine(BZ.o c hc).2 ?_;rcases Aq.1 hm with e|hm
  ·exact e▸Ae
  refine Aa _ ?_;have:c∈((S.put C []).put B []).all:=by have FR:B.toNat≠C.toNat:=λe=>AO.o.2.1 (by omega);unfold MS.all MS.put at hm⊢;simp only at hm⊢;rw[List.set_comm _ _ (Ne.symm FR)];exact hm
  exact(Y0 this).elim (λh=>by simp at h) id)
 have FT:=D (w.heap.size<=a) (z.o.fr.size);have B0:=D (∀(w':Bh) (v:Bk) (S':MS) (l':List Nat) (CF:Qyb) (lk:List Qy3),Yz bk mm G B C=(CF,lk)->Qn a ((S.put B []).put C []) g 0 w' CF S' l'->Je Z7 a S' w' v lk->Qqq bk p k l w S g (.returned (.tuple #[G,v,()])) w') (λw' v S' l' CF lk he M hn=>by
  refine⟨λe=>absurd (by rw[HC.o.1]) e,λ_ e=>absurd (show(l:Int)+Zk G<AL by rw[HC.o.1,HC.o.2]at e;exact e) (Int.not_lt.2 BG),λ_ _=>⟨v,S',l',by rw[HC.o.2], ?_, ?_⟩⟩
  ·rw[AT.o,he];exact z.o.thruI M
  rw[AT.o,he];obtain⟨F,o,nd,r⟩:=hn;exact⟨F,o,nd,λb E=>⟨Au FT (r b E).1,(r b E).2⟩⟩)
 have BL:=qh AY.o.2.2.1;have B1:=qh AY.o.2.2.2;clear AY CD C7 C8 CB A8 CC DS DK A3 BY BZ AT BH C0 DJ D7 A0 AM BC D3 C1 C2 C9 CA;generalize Qd (Qd mm B) C=m2 at *
 generalize (S.put B []).put C []=S2 at *
 by_cases q3:G=3
 ·subst q3
  obtain⟨A4,A5⟩:=HP.o.2.1 rfl;replace A4:L.length=2:=A4;replace A5:3 * J.length<=l:=A5;have AF:=BL.o;rw[A4]at AF r4;obtain⟨O,P,rfl⟩:∃O P,L=[O,P]:=by
   match L,A4 with
   | [O,P],_=>exact⟨O,P,rfl⟩
  have FU:=qh (Qw7 a g m2 S2 C.toNat B.toNat l z.o.mem z.o.free d U H j O P pd pw cd cw GA AF AE.o.1 s ly vy u J pe pv ce cv GB B1 AE.o.2 A5 (by have:J.length<=3:=BD.o.2.2;omega) (by have:u.length<=4:=BD.o.2.1;omega) AZ.o.1);have AG:=D (Yz bk mm 3 B C=((Qtz m2 (d,U,H,j,[O,P]) (s,ly,vy,u,J)).1,(Qtz m2 (d,U,H,j,[O,P]) (s,ly,vy,u,J)).2)) (by rw[Quo z.o.free (by simp only[Br];show 2+3 * J.length<=_;omega),AP.o];rfl);clear A4 A5 AF;go_wp2_with((go_at_call 252;(with_reducible refine FU.o.mono ?_);rintro e AH ⟨v',S',l',rfl,M,hn⟩;have AI:=qh M;have AJ:=qh hn;clear M hn))
  refine Ce (v:=.tuple #[I Z 3,v',()]) (by simp[results,results234,go_sem];first|rfl|done) rfl ?_;exact B0.o AH v' S' l' _ _ AG AI AJ.o
 by_cases q6:G=6
 ·subst q6
  obtain⟨A5,DT,DU,DV,DW⟩:=HP.o.2.2.2.2 rfl;replace A5:L.length<=l+1:=A5;have FV:=qh (Qo7 a g m2 S2 C.toNat (B.toNat::l) z.o.mem z.o.free d U H j L pd pw cd cw GA BL AE.o.1 s ly vy u J pe pv ce cv GB B1 AE.o.2 (by simp only[Br];omega) (by have:L.length<=3:=BD.o.1.2;omega) DT DU DV DW AZ.o.2 AZ.o.1);have AG:=D (Yz bk mm 6 B C=((Q4j m2 (d,U,H,j,L) (s,ly,vy,u,J)).1,(Q4j m2 (d,U,H,j,L) (s,ly,vy,u,J)).2)) (by rw[Qnl z.o.free (by simp only[Br];show L.length+1<=_;omega),AP.o];rfl);clear A5 DT DU DV DW;go_wp2_with((go_at_call 255;(with_reducible refine FV.o.mono ?_);rintro e AH ⟨v',S',l',rfl,M,hn⟩;have AI:=qh M;have AJ:=qh hn;clear M hn))
  refine Ce (v:=.tuple #[I Z 6,v',()]) (by simp[results,results234,go_sem];first|rfl|done) rfl ?_;exact B0.o AH v' S' l' _ _ AG AI AJ.o
 by_cases q5:G=5
 ·subst q5
  obtain⟨DX,DY⟩:=HP.o.2.2.2.1 rfl;have DZ:s=7/\2<=J.length\/s=8/\0<u.length/\0<J.length:=by
   rcases EZ.o rfl with e|e
   ·exact .inl ⟨e,DY (by rw[e];decide)⟩
   exact .inr ⟨e,DX e⟩
  have FW:=qh (Qsp a g m2 S2 C.toNat (B.toNat::l) z.o.mem z.o.free d U H j L pd pw cd cw GA BL AE.o.1 s ly vy u J pe pv ce cv GB B1 AE.o.2 DZ AZ.o.1);have AG:=D (Yz bk mm 5 B C=((Q40 m2 (d,U,H,j,L) (s,ly,vy,u,J)).1,(Q40 m2 (d,U,H,j,L) (s,ly,vy,u,J)).2)) (by rw[AP.o];rfl);clear DX DY DZ;go_wp2_with((go_at_call 254;(with_reducible refine FW.o.mono ?_);rintro e AH ⟨v',S',l',rfl,M,hn⟩;have AI:=qh M;have AJ:=qh hn;clear M hn))
  refine Ce (v:=.tuple #[I Z 5,v',()]) (by simp[results,results234,go_sem];first|rfl|done) rfl ?_;exact B0.o AH v' S' l' _ _ AG AI AJ.o
 by_cases q4:G=4
 ·subst q4
  have A5:J.length<=l+2:=HP.o.2.2.1 rfl;have FX:=qh (Qs8 a g m2 S2 (C.toNat::B.toNat::l) z.o.mem z.o.free s ly vy u J pe pv ce cv GB B1 AE.o.2 (by simp only[Br];omega) (by have:J.length<=3:=BD.o.2.2;omega) AZ.o.1);have AG:=D (Yz bk mm 4 B C=((J.foldl Ym (m2,[])).1,(J.foldl Ym (m2,[])).2)) (by rw[AP.o];rfl);clear A5;go_wp2_with((go_at_call 253;(with_reducible refine FX.o.mono ?_);rintro e AH ⟨v',S',l',rfl,M,hn⟩;have AI:=qh M;have AJ:=qh hn;clear M hn))
  refine Ce (v:=.tuple #[I Z 4,v',()]) (by simp[results,results234,go_sem];first|rfl|done) rfl ?_;exact B0.o AH v' S' l' _ _ AG AI AJ.o
 have CG:G=1\/G=2:=by have:=FQ.o;omega
 obtain⟨A4,B2⟩:=HP.o.1 CG;replace A4:L.length=2:=A4;replace B2:J.length=2:=B2;have AF:=BL.o;have CH:=B1.o;rw[A4]at AF r4;rw[B2]at CH s4;obtain⟨O,P,rfl⟩:∃O P,L=[O,P]:=by
  match L,A4 with
  | [O,P],_=>exact⟨O,P,rfl⟩
 obtain⟨y0,y1,rfl⟩:∃y0 y1,J=[y0,y1]:=by
  match J,B2 with
  | [y0,y1],_=>exact⟨y0,y1,rfl⟩
 have FY:=D (Yz bk mm G B C=(m2,[(O,y0),(P,y1)])) (by
  rw[AP.o];have:(G==1||G==2)=Bn:=by rcases CG with rfl|rfl<;>rfl
  rw[if_pos this];rfl)
 have CI:Rd (.slice Q5) a [A pw 2 cw] [O,P]:=by obtain⟨FZ,G0,CJ,CK,G1,G2,ex,-,-,h,-⟩:=AF.agent;have e5:A pw 2 cw=A CJ (aW (d,U,H,j,[O,P])) CK:=Option.some.inj (congrArg (λl:List Bk=>l[4]?) ex);rw[e5];exact h.rd
 have CL:Rd (.slice Q5) a [A pv 2 cv] [y0,y1]:=by obtain⟨FZ,G0,CJ,CK,G1,G2,ex,-,-,h,-⟩:=CH.agent;have e5:A pv 2 cv=A CJ (aW (s,ly,vy,u,[y0,y1])) CK:=Option.some.inj (congrArg (λl:List Bk=>l[4]?) ex);rw[e5];exact h.rd
 obtain⟨bq,oq,rfl,CM⟩:=Rd.elem CI 0 (by simp);obtain⟨GY,GZ,B3,CN⟩:=Rd.elem CI 1 (by simp);simp only[Bt,Addr.mk.injEq,and_true]at B3;obtain⟨rfl,rfl⟩:=B3;obtain⟨bz,oz,rfl,CO⟩:=Rd.elem CL 0 (by simp);obtain⟨H0,H1,B3,CP⟩:=Rd.elem CL 1 (by simp);simp only[Bt,Addr.mk.injEq,and_true]at B3;obtain⟨rfl,rfl⟩:=B3;simp only[List.getElem_cons_zero,List.getElem_cons_succ]at CM CN CO CP;obtain⟨E0,E1⟩:=O;obtain⟨E2,E3⟩:=P;obtain⟨E4,E5⟩:=y0;obtain⟨E6,E7⟩:=y1;obtain⟨a0,a1,E8,E9⟩:=CM.word;obtain⟨a2,a3,EA,EB⟩:=CN.word;obtain⟨b0,b1,EC,ED⟩:=CO.word;obtain⟨b2,b3,EE,EF⟩:=CP.word;simp only[Ty.sz,Bj,Nat.zero_mul,Nat.one_mul,Nat.add_zero]at a0 a1 a2 a3 b0 b1 b2 b3;have G3:=D ((Qyn E0/\Qyn E1/\Qyn E4/\Qyn E5)/\Qyn E2/\Qyn E3/\Qyn E6/\Qyn E7) (⟨⟨E8,E9,EC,ED⟩,EA,EB,EE,EF⟩);have G4:=Ac a _ a0;have G5:=Ac a _ b0;simp only at G4 G5;clear CM CN CO CP CI CL AF CH A4 B2 E8 E9 EA EB EC ED EE EF;have G6:=qh z.o.mem.lt;rcases CG with rfl|rfl
 all_goals
  go_upto_region 20 with fail
  go_still_tail 18,(by kernel_rfl)
  go_wp2_with fail
  refine Ce (v:=.tuple #[_,A (R (a,0)) 2 2,()]) (by simp[results,results234,go_sem];first|rfl|done) rfl ?_;have G7:Bp a a ((a.alloc (.cells #[E0,E1,E4,E5,E2,E3,E6,E7] 289)).drew):=((Ai _ _).alloc (Aj _) _).drew;refine B0.o _ _ S2 _ m2 _ FY ((Qn.start z.o.mem z.o.free).below G7) ⟨[a.heap.size],Qkv (Bg a _) G3,by simp,λb E=> ?_⟩;rw[Bb.1 E];exact⟨Aj _,λhm=>by have:=G6.o _ (Aa _ hm);omega⟩
def Q1.over{X Y a b c}(h:Q1 X a b)(k:Q1 Y b c)(E:∀i,Y i->X i\/a<=i):Q1 X a c:=
 ⟨k.os.trans h.os,k.tape.trans h.tape,k.output.trans h.output,Au h.size k.size,λi B C=>(k.block i (Ap B h.size) (λF=>(E i F).elim C (λe=>by omega))).trans (h.block i B C)⟩
def Qv8(bk:List Qy0)(p:Ye)(k:Nat)(w:Bh)(P:PS)(pb po:Nat)(e:Ending)(w':Bh):Prop:=
 e=.returned (Q0f bk (pM p) (Q3 p k))/\Q1 (λc=>c=pb\/c∈P.all) w w'/\(Q0f bk (pM p) (Q3 p k)=0->∃P',Z4 w P pb po w' (Q50 bk p k) P')
theorem Qsv(A1:Bh)(w)(C6:Bp A1 A1 w)(p0 c0)(bk:List Qy0)(C7:Rd (.slice Jl) A1 [A p0 bk.length c0] bk)(AG:bk.length<=Bu)(AT:∀n∈bk,Yd n=Bn)(pb J p P k)(h:Y2 w pb J p P)(hS:∀b∈pb::P.all,A1<=b)(hk:k<(pW p).length)(hx:0<(wX (Q3 p k)).length)(C8:wL (Q3 p k)=[])(l)(BF:Qch bk p k l):
  Calls prog 212 #[(pb,J),A p0 bk.length c0,(P.wb,P.wo+k * 5)] w (Qv8 bk p k w P pb J):=by
 obtain⟨n,hn⟩:∃n,(wX (Q3 p k)).length=n+1:=⟨(wX (Q3 p k)).length-1,by omega⟩;obtain⟨px,cx,pl,cl,pc,cc,Gx,W,g,⟨DF,DG,C9,DH,DI⟩,CA,CB,CC,⟨i0,i1⟩,hG,hN,hA⟩:=h.focus hk;obtain⟨qx,dx,m0,m1,m2,m3,m4,j0,j1,j2,-⟩:=h.mem.head;have HP:=qh h;have A2:=qh BF;have DJ:=qh CA;have BG:=qh CB;have BH:=qh CC;have HG:=qh hG;have HN:=qh hN;have K:=qh hA;have HS:=qh hS;have BI:=qh C6;have DK:=qh C7;have DL:=qh AG;have DM:=qh AT;have DN:=qh hn;have A3:=qh h.lt;have CD:=qh (Cj i0 i1);have BJ:=h.mem.blk.lt;have BK:=h.wks.blk.lt;have AU:=(h.ap.1 P.wb Ae).1;have BL:=Qxw hN;have CE:∀b∈Gx,b∈P.all/\b≠pb/\b≠P.wb/\b∉P.S.all:=λb B=>hA b (Ag _ B);have CF:=qh CE;have CG:((wX (Q3 p k)).length:Int)-1=(n:Int):=by omega
 have BM:=qh CG;have F1:IntKind.i64.wrap (((wX (Q3 p k)).length:Int)-1)=((wX (Q3 p k)).length:Int)-1:=Q2b (n:=(wX (Q3 p k)).length) (by have:=BF.xlen;omega);clear h BF CA CB CC hG hN hA hS C6 C7 AG AT hn i0 i1 CE CG;go_enter func212,ntmps212;go_upto_region 3 with fail
 refine Qp λu AV=> ?_;have CH:=D (u,oC w.heap.size #[A (R (P.S.cb,P.S.o)) (mC (pM p)).length P.S.cap,I Z (mF (pM p)),I Z (mR (pM p)).1,I Z (mR (pM p)).2,A px (wX (Q3 p k)).length cx,A p0 bk.length c0] 284) (by rw[AV];exact Bg w _);have A4:=D (w,u) (by rw[AV];go_grown);have z:=D (Q1 (λ_=>False) w u) (Ay A4);have F2:w.heap.size<u:=by rw[AV];simp
 have DO:=qh (HP.o.lend (k:=k) (Aj _) z.o CH DJ BL.1 CF);clear AV;have DP:u.cell? (w,5)=R (A p0 bk.length c0):=Q6 CH rfl;have d2:=jC A4 C9;have DQ:=D (A1,u) (BI.o.trans (A4.o.mono BI.o.size));have BN:=D (∀b∈w.heap.size::(⟨P.S.cb,P.S.o,P.S.cap,P.S.Fs,Gx⟩:MS).all,A1<=b/\(b=w.heap.size\/(b∈P.all/\b≠pb/\b≠P.wb/\b∉W++g))) (λb B=>by
  have DR:=HP.o.ap;rcases Aq.1 B with e|B
  ·exact⟨e▸BI.o.size,.inl e⟩
  have G:(b∈P.S.all\/b∈Gx):=by
   rcases Aq.1 B with e|B
   ·exact .inl (e▸Ae)
   exact(At0.1 B).imp (λh=>Aa _ (Ag _ h)) id
  have AN:k<P.Fw.length:=by have:=HP.o.wks.len;omega
  rcases G with G|G
  ·have d:=DR.2 b (Aa _ G)
   refine⟨HS.o b (Aa _ (Ag _ G)),.inr ⟨Ag _ G,λe=>(Ar.1 HP.o.nd).1 (e▸Ag _ G),λe=>d (e▸Ae),λC=>d (Aa _ (Zv AN ?_))⟩⟩;rw[HG.o];exact Af _ C
  obtain⟨a1,a2,a3,-⟩:=CF.o b G;exact⟨HS.o b (Aa _ a1),.inr ⟨a1,a2,a3,BL.2.2 b G⟩⟩)
 have DS:=D (∀b∈w.heap.size::(⟨P.S.cb,P.S.o,P.S.cap,P.S.Fs,Gx⟩:MS).all,A1<=b) (λb B=>(BN.o b B).1);obtain⟨⟨BO,AW⟩,BP⟩:∃c,Vb bk p k=c:=⟨_,rfl⟩;obtain⟨M,BQ⟩:∃c,Q19 p k=c:=⟨_,rfl⟩;have AH:=qh (Qpl (bk:=bk) (p:=p) (k:=k) (n:=l.length) A2.o.freeLen);rw[BP,BQ]at AH;have A9:=qh BP;have AI:=qh BQ;have BR:=qh (Qst A1 u DQ p0 c0 bk DK DL DM w p k n DO DS DP DN l A2);have AX:=D (∀Y,Q1 (λc=>c=w.heap.size\/c∈(⟨P.S.cb,P.S.o,P.S.cap,P.S.Fs,Gx⟩:MS).all) u Y->Q1 (λc=>c=pb\/c∈P.all) w Y) (λY hf=>(Ay A4).over hf λi O=>by
  rcases O with e|O
  ·exact .inr (by omega)
  rcases(BN.o i (Aa _ O)).2 with e|e
  ·exact .inr (by omega)
  exact .inl (.inr e.1))
 clear BP BQ;by_cases AO:AW=0;rotate_left
 ·have F3:(AW !=0)=Bn:=by simpa using AO
  have HH:=D (Q0f bk (pM p) (Q3 p k)=AW) (by rw[AH.o];simp[AO]);have DT:=D ((Vb bk p k).2≠0) (by rw[A9.o];exact AO);have DU:=D ((Vb bk p k).2=AW) (by rw[A9.o]);go_wp2_with((go_at_call 234;rw[BM.o];(with_reducible refine BR.o.mono ?_);rintro e Y ⟨G,d,h3⟩;obtain⟨rfl,B⟩:=G DT;rw[DU.o];have BS:=qh B;clear G d h3 B))
  go_ret;exact⟨by rw[HH.o]<;>rfl,AX.o _ (Ay BS),λe=>absurd (HH.o.symm.trans e) AO⟩
 subst AO;have BT:=D ((Vb bk p k).2=0) (by rw[A9.o]);by_cases AY:(l.length:Int)+Zk M<BO
 ·have HH:=D (Q0f bk (pM p) (Q3 p k)=4) (by rw[AH.o];simp[AY])
  have AZ:=D ((l.length:Int)+Zk (Q19 p k)<(Vb bk p k).1) (by rw[A9.o,AI.o];exact AY);go_wp2_with((go_at_call 234;rw[BM.o];(with_reducible refine BR.o.mono ?_);rintro e Y ⟨G,d,h3⟩;obtain⟨rfl,B⟩:=d BT AZ;have BS:=qh B;clear G d h3 B))
  go_ret;exact⟨by rw[HH.o]<;>rfl,AX.o _ (Ay BS),λe=>absurd (HH.o.symm.trans e) (by decide)⟩
 have AZ:=D (¬((l.length:Int)+Zk (Q19 p k)<(Vb bk p k).1)) (by rw[A9.o,AI.o];exact AY);obtain⟨F4,F5⟩:1<=M/\M<=7:=by
  have h0:(Zt bk (mC (pM p)) (Yg (Q3 p k))).2=0:=BT.o;have G:(Zt bk (mC (pM p)) (Yg (Q3 p k))).1=BO:=by have:=A9.o;unfold Vb at this;rw[this]
  have d:Qu (mC (pM p)) (Yg (Q3 p k))=M:=AI.o;have:=(Qfl bk A2.o.cells A2.o.rok h0 (n:=l.length) (by rw[G,d];omega)).1;rw[d]at this;exact this
 obtain⟨T,CI⟩:∃T,(Q2m bk p k).1=T:=⟨_,rfl⟩;obtain⟨E,AN⟩:∃E,(Q2m bk p k).2=E:=⟨_,rfl⟩;have CJ:=qh A2.o.counts;have BU:(M-1).toNat<(wC (Q3 p k)).length:=by rw[CJ.o.1];omega
 obtain⟨f,B0⟩:∃f,(wC (Q3 p k)).getD (M-1).toNat 0=f:=⟨_,rfl⟩;have DV:=D (0<=f/\f<=1000000000) (by rw[<-B0,Ab,Ad BU];exact CJ.o.2 _ (As _));rw[B0]at AH;have CK:(M-1).toNat=M.toNat-1:=by omega
 have F7:M-1<((wC (Q3 p k)).length:Int):=by omega
 have F8:(0:Int)<=M-1:=by omega
 have CL:=qh B0;clear B0 AY;go_upto_region 6 with((go_at_call 234;rw[BM.o];(with_reducible refine BR.o.mono ?_);rintro e Y ⟨G,d,h3⟩;obtain⟨v,S',l',rfl,hs,hn⟩:=h3 BT AZ;rw[AI.o];rw[CI]at hs;rw[AN]at hn;obtain⟨pv,CM,rfl⟩:=hn.form;have A5:=qh hs;have DW:=qh hn;clear G d h3 hs hn))
 have A6:=D (∀b,(b=P.wb\/b=pb\/b∈W++g)->¬(b=w.heap.size\/b∈(⟨P.S.cb,P.S.o,P.S.cap,P.S.Fs,Gx⟩:MS).all)) (λb B e=>by
  have F9:b<w.heap.size:=by
   rcases B with e|e|e
   ·omega
   ·omega
   exact A3.o b (Aa _ (K.o b (Af _ e)).1)
  rcases e with e|e
  ·omega
  rcases(BN.o b (Aa _ e)).2 with e|⟨-,e1,e2,e3⟩
  ·omega
  rcases B with e|e|e
  ·exact e2 e
  ·exact e1 e
  exact e3 e)
 have m:=A5.o.fr;have B1:=A6.o P.wb (.inl rfl);have AP:=A6.o pb (.inr (.inl rfl));have CN:P.wb<u:=Ap BK A4.o.size;have CO:pb<u:=Ap BJ A4.o.size;have kk:∀q,Y.cell? ⟨P.wb,q,N⟩=w.cell? ⟨P.wb,q,N⟩:=λq=>(m.cell CN B1 q).trans ((z.o.cell BK (λh=>h) q));have e0:=(kk _).trans DF;have e1:=(kk _).trans DG;have e2:=(kk _).trans C9;have e3:=(kk _).trans DH;have e4:=(kk _).trans DI;have DX:=λq=>((m.frozen CN B1 q).trans (z.o.frozen BK (λh=>h) q)).trans (HP.o.wks.blk.free q);have FA:=λq=>((m.frozen CO AP q).trans (z.o.frozen BJ (λh=>h) q)).trans (HP.o.mem.blk.free q);have DY:=qh ((BH.o.frame z.o (λb B=>⟨BH.o.lt b B,λh=>h⟩)).frame m (λb B=>⟨Ap (BH.o.lt b B) A4.o.size,A6.o b (.inr (.inr (Af _ B)))⟩));have CP:=qh ((BG.o.frame z.o (λb B=>⟨BG.o.lt b B,λh=>h⟩)).frame m (λb B=>⟨Ap (BG.o.lt b B) A4.o.size,A6.o b (.inr (.inr (Ag _ B)))⟩));have B2:=Qxw BL.2.1;obtain⟨bc,oc,us,Gz,AT,AG,FB,-,-,-,DZ,BV,E0,CQ,CR⟩:=DY.o.focus B2.2.1 (M-1).toNat BU;have E1:=Va (t:=.int) rfl CQ;subst E1;obtain⟨rfl,E2,-⟩:=CQ;have CS:(wC (Q3 p k))[(M-1).toNat]=f:=by rw[<-CL.o,Ab,Ad BU];rfl
 rw[CS]at BV E2;subst AT;have kc:=Qa6 BV;simp only[Ty.sz,Cc]at kc;have E3:=qh CR;have E4:=qh kc;rw[CK]at kc;clear CR BV DZ CS kk;have E5:=DV.o;obtain⟨FC,FD⟩:=E5;by_cases B3:f=1000000000
 ·have HH:=D (Q0f bk (pM p) (Q3 p k)=4) (by rw[AH.o];simp[B3])
  rw[B3]at kc;go_wp2
  go_ret;exact⟨by rw[HH.o]<;>rfl,AX.o _ A5.o.fr,λe=>absurd (HH.o.symm.trans e) (by decide)⟩
 have E6:(f==1000000000)=Bm:=by simpa using B3
 have HH:=D (Q0f bk (pM p) (Q3 p k)=0) (by
  rw[AH.o];have G:¬(1000000000<=f):=by omega
  have d:¬((l.length:Int)+Zk M<BO):=by intro h;have:=AZ.o;rw[A9.o,AI.o]at this;simp only at this;omega
  simp[G];omega)
 obtain⟨BW,BX,x4,BY⟩:=A5.o.mem.redexes;simp only[Cg]at x4;have FE:w≠bc:=λe=>by have:=A3.o bc (Aa _ (K.o bc (Af _ (Af _ AG))).1);omega
 have E7:=Ac Y _ x4;simp only at E7;have FF:u.heap.size<=Y.heap.size:=m.size;have FG:P.wb<Y.heap.size:=by omega
 have AA:bc≠P.wb:=λe=>(K.o bc (Af _ (Af _ AG))).2.2.1 e;clear B3;go_upto_region 10 with fail
 refine Qp λH A0=> ?_;have E8:(M-1).toNat=M.toNat-1:=CK;have AQ:=D (Q1 (λc=>c=P.wb\/c∈g) Y H) (by rw[A0];exact V1 (V1 (Q1.refl _ _) (.inr AG) _) (.inl rfl) _);have E9:=D (Qc P.wb (P.wo+k * 5) 5 Y H) (by rw[A0];exact((Qc.of_frame (Zw _ _ _ _) (λe=>AA e.symm) _ _).set (P.wo+k * 5+2) (by omega) _));have BZ:=D (Ow (.slice .int) H [A (R (bc,oc)) (wC (Q3 p k)).length cc] ((wC (Q3 p k)).set (M-1).toNat (f+1)) g) (by
  have h3:=E3.o (Y.setCell (bc,oc+(M-1).toNat) (I Z (f+1))) [I Z (f+1)] (f+1) ((Zw _ _ _ _).mono λc hc=> .inl hc) (by simp only[Ty.sz,Cc];exact(Qc.refl _ _ _ _).set _ (by omega) _)
   (by
    intro j hj;obtain rfl:j=0:=by simpa using hj
    simp only[Ty.sz,Cc];exact Bx _ _ _ E4) ⟨rfl,by unfold Qyn;omega,rfl⟩
  rw[A0,<-E8];exact h3.frame (Zw _ _ _ _) (λb B=>⟨h3.lt b B,λe=>(K.o b (Af _ (Af _ B))).2.2.1 e⟩))
 have C0:∀b∈W,b∉g:=λb B C=>B2.2.2 b B C;have EA:=D (Ow (.slice Z7) H [A pl 0 cl] [] W) (by have:=CP.o.frame AQ (λb B=>⟨CP.o.lt b B,λe=>e.elim (λe=>(K.o b (Af _ (Ag _ B))).2.2.1 e) (C0 b B)⟩);rw[C8]at this;exact this);have e0:H.cell? (P.wb,P.wo+k * 5)=R (I Z (wP (Q3 p k))):=by rw[A0,Qs (by omega),Gt _ _ _ _ (by exact AA)];exact e0
 have e1:H.cell? (P.wb,P.wo+k * 5+1)=R (I Z (wV (Q3 p k))):=by rw[A0,Qs (by omega),Gt _ _ _ _ (by exact AA)];exact e1
 have e2:H.cell? (P.wb,P.wo+k * 5+2)=R (A BW (mX T).length BX):=by rw[A0];exact Bx _ _ _ ((Gt _ _ _ _ (by exact AA)).trans e2)
 have e3:H.cell? (P.wb,P.wo+k * 5+3)=R (A pl 0 cl):=by rw[A0,Qs (by omega),Gt _ _ _ _ (by exact AA)];rw[C8]at e3;exact e3
 have e4:H.cell? (P.wb,P.wo+k * 5+4)=R (A (R (bc,oc)) (wC (Q3 p k)).length cc):=by rw[A0,Qs (by omega),Gt _ _ _ _ (by exact AA)];exact e4
 have AR:=D (Qy5 H P.wb) (by rw[A0];exact((((HP.o.wks.blk.frame z.o (λh=>h)).frame m B1).keep (Qc.of_frame (Zw _ _ _ _) (λe=>AA e.symm) 0 0)).keep ((Qc.refl P.wb 0 (P.wo+k * 5+3) _).set (P.wo+k * 5+2) (by omega) _)));have EB:=D (Je Z7 u S' H (A pv E.length CM) E) (by
  obtain⟨F,o,nd,r⟩:=DW.o;exact⟨F,o.frame AQ (λb B=>⟨o.lt b B,λe=>by
   have G:=(r b B).1;rcases e with e|e
   ·omega
   have:=A3.o b (Aa _ (K.o b (Af _ (Af _ e))).1);omega⟩),nd,r⟩)
 have FH:Y.heap.size=H:=by rw[A0];simp[World.setCell]
 have FI:P.wb<H:=by omega
 have FJ:Q1 (λc=>c=P.wb\/c∈g) Y H:=AQ.o;clear A0 kc x4 E0 DX E6;have B4:=D (E.length<=1000000) (by
  have G:=Qqc bk (Q5x p ((wX (Q3 p k)).take ((wX (Q3 p k)).length-1))) (Qu (mC (pM p)) (Yg (Q3 p k))) (Zi (mC (pM p)) (Yg (Q3 p k))).1 (Zi (mC (pM p)) (Yg (Q3 p k))).2;have d:E.length<=2+(aW (Q7 (mC (pM p)) (Zi (mC (pM p)) (Yg (Q3 p k))).2)).length:=by rw[<-AN];exact G
  have CT:=Qf2 (cs:=mC (pM p)) (q0:=(Yg (Q3 p k)).1) (q1:=(Yg (Q3 p k)).2) (J0 A2.o.rok).1 l A2.o.nin;have h3:(aD (Q7 (mC (pM p)) (Zi (mC (pM p)) (Yg (Q3 p k))).2)).length<=4/\(aW (Q7 (mC (pM p)) (Zi (mC (pM p)) (Yg (Q3 p k))).2)).length<=3:=A2.o.small _ CT.1.2.1 CT.1.2.2;omega)
 have EC:=D (∀V,Q1 (λc=>c=P.wb\/c∈W) H V->Rd (.slice Z7) V [A pv E.length CM] E) (λV hf=>by
  obtain⟨F,o,nd,r⟩:=EB.o;exact(o.frame hf λb B=>⟨o.lt b B,λe=>by
   have G:=(r b B).1;rcases e with e|e
   ·omega
   have:=A3.o b (Aa _ (K.o b (Af _ (Ag _ e))).1);omega⟩).rd)
 obtain⟨il,ED,EE,EF,EG⟩:=info_parts Q1d;have FK:(H.heap.size:Int)=H:=rfl;go_upto_region 11 with fail
 go_loopw [72] (λi wr=>∃(j:Nat) (AJ:Option Addr) (AK:Nat) (Fl:List Nat),j<=E.length/\i=I Z j/\Hd (wr,P.wb,P.wo+k * 5+3,A AJ (E.take j).length AK)/\Hd (Ow (.slice Z7) wr [A AJ (E.take j).length AK] (E.take j) Fl)/\Hd (Fl.Nodup)/\Hd (∀b∈Fl,b∈W\/H<=b)/\Hd (Q1 (λc=>c=P.wb\/c∈W) H wr)/\Hd (Qc P.wb (P.wo+k * 5+3) 1 H wr)) (λi _=>E.length-(By i).toNat);case atStart=>exact⟨0,pl,cl,W,Ak _,rfl,e3,EA.o,(show W.Nodup from B2.1),(show∀b∈W,b∈W\/H<=b from λ_ h=> .inl h),Q1.refl _ _,Qc.refl _ _ _ _⟩
 obtain⟨j,AJ,AK,Fl,hj,rfl,B5,AB,CU,B6,AC,AD⟩:=hrel;have FL:=AC.o.size;have CV:P.wb<wr:=by omega
 by_cases C1:j<E.length
 ·have C2:=D (j+1<=E.length) (C1)
  obtain⟨bl,ol,rfl,hE⟩:=Rd.elem (EC.o _ AC) j C1;have C3:=D (E.take (j+1)=E.take j++ [E[j]]) (An C1);generalize E[j]=x at *
  obtain⟨⟨a1,s1⟩,⟨a2,s2⟩⟩:=x;obtain⟨⟨g0,g1,g2,g3⟩,CW,CX,CY,CZ⟩:=hE.link;simp only[Ty.sz,Bj]at g0 g1 g2 g3;have EH:=Ac wr _ g0;simp only at EH;have B7:=D (Qyn a1/\Qyn s1/\Qyn a2/\Qyn s2) (⟨CW,CX,CY,CZ⟩);obtain⟨L,hL⟩:∃L,E.take j=L:=⟨_,rfl⟩;have FM:L.length<=1000000:=by rw[<-hL,Cf];have:=B4.o;omega
  rw[hL]at B5 AB C3;have FN:(j:Int)<E.length:=by omega
  have FO:(0:Int)<=j:=by omega
  clear hE CW CX CY CZ hL;go_upto_region 13 with fail
  refine Qp λU B8=> ?_;have AL:=D (wr,U) (by rw[B8];go_grown);have B9:U.heap[wr.heap.size]?=R (.cells #[I Z a1,I Z s1,I Z a2,I Z s2] 289):=by rw[B8];exact Bg wr _
  have k0:U.cell? (wr,0)=R (I Z a1):=Q6 B9 rfl;have k1:U.cell? (wr,1)=R (I Z s1):=Q6 B9 rfl;have k2:U.cell? (wr,2)=R (I Z a2):=Q6 B9 rfl;have k3:U.cell? (wr,3)=R (I Z s2):=Q6 B9 rfl;have D0:U.heap.size=wr+1:=by rw[B8];simp
  have D1:=qh (AB.o.kept λb B=>AL.o.block b (AB.o.lt b B));have l3:=jC AL B5;have EI:P.wb<U:=by omega
  have BA:P.wb∉Fl:=λe=>(B6.o _ e).elim (λe=>(K.o _ (Af _ (Ag _ e))).2.2.1 rfl) λe=>by omega
  have FP:wr.heap.size∉Fl:=λe=>by have:=AB.o.lt _ e;omega
  have EJ:=λq=>((Ay (X:=λ_=>False) AL).frozen CV (λh=>h) q).trans ((AR.o.keep AD).free q);have FQ:=qh D0;have FR:=B4.o;clear B8 g0 g1 g2 g3 D0;go_region_law((refine Yk _ rfl (.tmp 80) (.tmp 86) 114 rfl (e:=Z7) 146 il _ 32 underlying114 ED EE EF EG rfl (by decide) (v:=A AJ L.length AK) (xs:=L) (y:=((a1,s1),(a2,s2))) (vs:=[I Z a1,I Z s1,I Z a2,I Z s2]) (F:=Fl) U 1 rfl rfl (D1.o.kept λb B=>Az _ _ _ (D1.o.lt b B)) CU (Ow.link B7.o.1 B7.o.2.1 B7.o.2.2.1 B7.o.2.2.2) (Qaf (Q6 (Bg U.drew _) rfl) (Q6 (Bg U.drew _) rfl) (Q6 (Bg U.drew _) rfl) (Q6 (Bg U.drew _) rfl)) Qmj (by omega) ?_;intro p6 c6 w6 F6 D2 D3 D4 D5;have D6:=qh D2;have EK:=qh D3;have D7:=qh D4;have BB:=qh (Q1.trans (show Q1 (λc=>c∈Fl) U _ from((Q1.refl _ U).alloc _).drew) D5);have FT:=λq=>(BB.o.frozen EI BA q).trans (EJ q);have r6:=Qo BB l3 BA;clear D2 D3 D4 D5))
  all_goals
   go_wp2
   go_roundw;case rel=>
    have FU:=B4.o;have FV:=C2.o;have EL:∀b∈F6,b<w6.heap.size/\b≠P.wb:=λb B=>⟨D6.o.lt b B,λe=>(D7.o b B).elim (λh=>BA (e▸h)) λh=>by have d:U<=b:=(by rw[h];exact Fu (by show _<(U.alloc _).heap.size;simp));omega⟩;refine⟨j+1,p6,c6,F6,C2.o,by go_num,(show World.cell? _ _=_ from ?_),(show Ow _ _ _ _ _ from ?_),EK.o,(show∀b∈F6,b∈W\/H<=b from λb B=> ?_),(show Q1 _ _ _ from ?_),(show Qc _ _ _ _ _ from ?_)⟩
    ·rw[C3.o,Bo];exact Bx _ _ _ r6
    ·rw[C3.o,Bo];exact D6.o.frame (Zw _ _ _ _) EL
    ·rcases D7.o b B with h|h
     ·exact B6.o b h
     have d:U<=b:=by rw[h];exact Fu (by show _<(U.alloc _).heap.size;simp)
     have:=AL.o.size;exact .inr (by omega)
    ·exact V1 ((AC.o.trans (Ay AL)).over BB (λi O=>(B6.o i O).imp .inr id)) (.inl rfl) _
    exact((AD.o.fr (Ay (X:=λ_=>False) AL) (λh=>h)).fr BB BA).set _ (by omega) _
   have:=C2.o;have:=B4.o;simp[By];omega
 have EM:E.length<=j:=by omega
 have EN:=D (E.take j=E) (Ao EM);rw[EN.o]at B5 AB;have FW:wr.heap[w.heap.size]?=H.heap[w.heap.size]?:=AC.o.block _ (by omega) (λe=>e.elim (λe=>by omega) λe=>by have:=A3.o _ (Aa _ (K.o _ (Af _ (Ag _ e))).1);omega);have FX:H.heap[w.heap.size]?=Y.heap[w.heap.size]?:=AQ.o.block _ (by omega) (λe=>e.elim (λe=>by omega) λe=>by have:=A3.o _ (Aa _ (K.o _ (Af _ (Af _ e))).1);omega);have A7:=D (Q1 (λc=>c=P.wb\/c∈W++g) Y wr) ((AQ.o.mono λc hc=>hc.imp id (Af _)).trans (AC.o.mono λc hc=>hc.imp id (Ag _)));have D8:=D (Zh wr w 0 T S') (A5.o.mem.frame A7 λb B e=>by
  have EO:b=w.heap.size\/b∈S'.all:=(Aq.1 B);have D9:b=P.wb\/b=pb\/b∈W++g:=e.elim .inl λe=> .inr (.inr e);rcases EO with B|B
  ·exact A6.o b D9 (.inl B)
  rcases A5.o.fresh.2.2.2 b B with B|B
  ·exact A6.o b D9 (.inr B)
  have:b<w.heap.size:=by
   rcases e with e|e
   ·omega
   exact A3.o b (Aa _ (K.o b (Af _ e)).1)
  omega)
 obtain⟨qf,df,n0,n1,n2,n3,n4,v0,v1,v2,FY⟩:=D8.o.head;simp only[Cg]at n1 n2 n3 n4;have DA:=D (Qy5 wr pb) (((HP.o.mem.blk.frame z.o (λh=>h)).frame m AP).frame A7 (λe=>by
  rcases e with e|e
  ·exact AU e.symm
  exact(K.o pb (Af _ e)).2.1 rfl))
 have FZ:pb<wr:=by omega
 have DB:¬(pb=P.wb\/pb∈W++g):=λe=>by
  rcases e with e|e
  ·exact AU e.symm
  exact(K.o pb (Af _ e)).2.1 rfl
 have kp:∀q,wr.cell? ⟨pb,q,N⟩=w.cell? ⟨pb,q,N⟩:=λq=>(A7.o.cell (by omega) DB q).trans ((m.cell CO AP q).trans (z.o.cell BJ (λh=>h) q));have EP:=(kp _).trans m0;have p1:=(kp _).trans m1;have p2:=(kp _).trans m2;have p3:=(kp _).trans m3;have p4:=(kp _).trans m4;have G0:=λq=>DA.o.free q;clear kp;have DC:pb∉S'.all:=λC=>by
  rcases A5.o.fresh.2.2.2 pb C with h|h
  ·exact AP (.inr h)
  omega
 have DD:∀b∈S'.all,(b∈P.S.all\/b∈Gx\/w<=b)/\b≠P.wb/\b∉W++g:=λb C=>by
  rcases A5.o.fresh.2.2.2 b C with h|h
  ·refine⟨?_,λe=>A6.o b (.inl e) (.inr h),λe=>A6.o b (.inr (.inr e)) (.inr h)⟩
   rcases Aq.1 h with e|h
   ·exact .inl (e▸Ae)
   exact(At0.1 h).elim (λh=> .inl (Aa _ (Ag _ h))) λh=> .inr (.inl h)
  exact⟨.inr (.inr (by omega)),λe=>by omega,λe=>by have:=A3.o b (Aa _ (K.o b (Af _ e)).1);omega⟩
 have AE:=qh DD;have BC:=qh DC;have BD:=D (∀b∈Fl,b∉g/\b≠pb/\b≠P.wb/\b∉S'.all/\(b∈W\/w<=b)) (λb B=>by
  have EQ:b∈S'.all->b<Y.heap.size:=λC=>A5.o.mem.lt b (Aa _ C);rcases B6.o b B with h|h
  ·have ha:=K.o b (Af _ (Ag _ h))
   exact⟨C0 b h,ha.2.1,ha.2.2.1,λC=>(AE.o b C).2.2 (Ag _ h),.inl h⟩
  refine⟨λe=> ?_,by omega,by omega,λC=>by have:=EQ C;omega,.inr (by omega)⟩;have:=A3.o b (Aa _ (K.o b (Af _ (Af _ e))).1);omega)
 clear DD DC;go_wp2_with fail
 obtain⟨s,AS⟩:∃s,s=((((((wr.setCell (pb,J) (A (R (S'.cb,S'.o)) (mC T).length S'.cap)).setCell (pb,J+1) (I Z (mF T))).setCell (pb,J+2) (I Z (mR T).1)).setCell (pb,J+3) (I Z (mR T).2)).setCell (pb,J+4) (A qf (mX T).length df)).setCell (pb,J+4) (A N 0 0)):=⟨_,rfl⟩;rw[<-AS];have A8:Q1 (λc=>c=pb) wr s:=by rw[AS];exact V1 (Q0c _ _ _ _ _ _ _ _) rfl _
 have DE:Qc pb J 5 wr s:=by rw[AS];exact((((((Qc.refl pb J 5 wr).set J (by omega) _).set (J+1) (by omega) _).set (J+2) (by omega) _).set (J+3) (by omega) _).set (J+4) (by omega) _).set (J+4) (by omega) _
 have ER:Qy2 s pb J [A (R (S'.cb,S'.o)) (mC T).length S'.cap,I Z (mF T),I Z (mR T).1,I Z (mR T).2,jN]:=by
  rw[AS];refine Q1n ?_ ?_ ?_ ?_ ?_
  ·exact(Qs (by omega)).trans ((Qs (by omega)).trans ((Qs (by omega)).trans ((Qs (by omega)).trans ((Qs (by omega)).trans (Bx _ _ _ EP)))))
  ·exact(Qs (by omega)).trans ((Qs (by omega)).trans ((Qs (by omega)).trans ((Qs (by omega)).trans (Bx _ _ _ ((Qs (by omega)).trans p1)))))
  ·exact(Qs (by omega)).trans ((Qs (by omega)).trans ((Qs (by omega)).trans (Bx _ _ _ ((Qs (by omega)).trans ((Qs (by omega)).trans p2)))))
  ·exact(Qs (by omega)).trans ((Qs (by omega)).trans (Bx _ _ _ ((Qs (by omega)).trans ((Qs (by omega)).trans ((Qs (by omega)).trans p3)))))
  exact Bx _ _ _ (Bx _ _ _ ((Qs (by omega)).trans ((Qs (by omega)).trans ((Qs (by omega)).trans ((Qs (by omega)).trans p4)))))
 clear AS;go_ret;refine⟨by rw[HH.o]<;>rfl,((AX.o _ m).over A7 (λi O=> .inl (.inr (O.elim (λe=>e▸PS.wb_all) λe=>(K.o i (Af _ e)).1)))).over A8 (λi O=> .inl (.inl O)),λ_=> ?_⟩;have AM:∀b,b∈Gx\/b∈W++g->b∈P.Fw.getD k []:=λb B=>by rw[HG.o];exact B.elim (Ag _) (Af _)
 have ES:Q1 (λc=>c=pb\/c=P.wb\/c∈P.S.all\/c∈P.Fw.getD k []) w s:=by
  refine(((Ay A4).over m λi O=> ?_).over A7 λi O=> .inl (O.elim (λe=> .inr (.inl e)) λe=> .inr (.inr (.inr (AM i (.inr e)))))).over A8 λi O=> .inl (.inl O);rcases O with e|O
  ·exact .inr (by omega)
  rcases Aq.1 O with e|O
  ·exact .inl (.inr (.inr (.inl (e▸Ae))))
  exact .inl ((At0.1 O).elim (λh=> .inr (.inr (.inl (Aa _ (Ag _ h))))) λh=> .inr (.inr (.inr (AM i (.inl h)))))
 have ET:Qc P.wb (P.wo+k * 5) 5 w s:=(((((Qc.refl _ _ _ _).fr z.o (λh=>h)).fr m B1).trans E9).trans (AD.o.wide (by omega) (by omega))).fr A8 (λe=>AU e);have EU:Qc pb J 5 w s:=((((Qc.refl _ _ _ _).fr z.o (λh=>h)).fr m AP).fr A7 DB).trans DE;have EV:=Ar.1 A5.o.mem.nodup;have C4:=Ar.1 EV.2;have C5:=Ba.1 C4.2;have C:Zh s pb J (mC T,mF T,mR T,[]) {S' with Fx:=[]}:=by
  refine⟨N,0,DA.o.keep DE,ER,v0,v1,v2,D8.o.cells.frame A8 (λb B e=> ?_),Ow.nil _, ?_⟩
  ·subst e
   exact BC.o ((Aq.1 B).elim (λe=>e▸Ae) λh=>Aa _ (Ag _ h))
  show(pb::S'.cb::(S'.Fs.flatten++ [])).Nodup;rw[List.append_nil,Ar,Ar];refine⟨λB=>BC.o ((Aq.1 B).elim (λe=>e▸Ae) λh=>Aa _ (Ag _ h)),λh=>C4.1 (Ag _ h),C5.1⟩
 have BE:∀b∈({S' with Fx:=[]}:MS).all,b∈S'.all/\b∉S'.Fx:=λb B=>by
  rcases Aq.1 B with e|B
  ·exact⟨e▸Ae,λh=>C4.1 (e▸Af _ h)⟩
  have B:b∈S'.Fs.flatten:=by simpa using B
  exact⟨Aa _ (Ag _ B),λh=>C5.2.2 b B b h rfl⟩
 have AF:∀b∈S'.Fx,b∈S'.all:=λb B=>Aa _ (Af _ B);have EW:Ow (.slice Q5) s [A BW (mX T).length BX] (mX T) S'.Fx:=(BY.frame A7 λb B=>⟨BY.lt b B,λe=>e.elim (AE.o b (AF b B)).2.1 (AE.o b (AF b B)).2.2⟩).frame A8 λb B=>⟨Ap (BY.lt b B) A7.o.size,λe=>BC.o (e▸AF b B)⟩;have EX:Ow (.slice Z7) s [A AJ E.length AK] E Fl:=AB.o.frame A8 λb B=>⟨AB.o.lt b B,(BD.o b B).2.1⟩;have EY:Ow (.slice .int) s [A (R (bc,oc)) (wC (Q3 p k)).length cc] ((wC (Q3 p k)).set (M-1).toNat (f+1)) g:=(BZ.o.frame AC λb B=>⟨BZ.o.lt b B,λe=>e.elim (λe=>(K.o b (Af _ (Af _ B))).2.2.1 e) λe=>C0 b e B⟩).frame A8 λb B=>⟨Ap (BZ.o.lt b B) AC.o.size,λe=>(K.o b (Af _ (Af _ B))).2.1 e⟩;have EZ:Qy2 s P.wb (P.wo+k * 5) [I Z (wP (Q3 p k)),I Z (wV (Q3 p k)),A BW (mX T).length BX,A AJ E.length AK,A (R (bc,oc)) (wC (Q3 p k)).length cc]:=by have hh:=λq=>A8.cell CV (λe=>AU e) q;exact Q1n ((hh _).trans (Q1m e0 AR AD (by omega))) ((hh _).trans (Q1m e1 AR AD (by omega))) ((hh _).trans (Q1m e2 AR AD (by omega))) ((hh _).trans B5) ((hh _).trans (Q1m e4 AR AD (by omega)))
 have G1:(wC (Q3 p k)).length=((wC (Q3 p k)).set (M-1).toNat (f+1)).length:=by rw[Bl]
 have F0:=HP.o.redo hk C ES ET EU EZ (Ow.mkWorker CD.o.1 CD.o.2 EW EX EY) (by
  rw[Ba,Ba];refine⟨C5.2.1,⟨CU.o,B2.2.1,λa ha b B e=>(BD.o a ha).1 (e▸B)⟩,λa ha b B e=> ?_⟩;rcases At0.1 B with B|B
  ·exact(BD.o b B).2.2.2.1 (e▸AF a ha)
  ·exact(AE.o a (AF a ha)).2.2 (e▸Af _ B)) (λb B=>by
  rcases At0.1 B with B|B
  ·refine⟨(AE.o b (AF b B)).1.imp id (λh=>h.imp (λh=>AM b (.inl h)) id),λC=> ?_⟩
   rcases Aq.1 C with e|C
   ·exact BC.o (e▸AF b B)
   exact(BE b C).2 B
  rcases At0.1 B with B|B
  ·obtain⟨f1,f2,f3,f4,f5⟩:=BD.o b B
   exact⟨.inr (f5.imp (λh=>AM b (.inr (Ag _ h))) id),λC=>(Aq.1 C).elim f2 λC=>f4 (BE b C).1⟩
  refine⟨.inr (.inl (AM b (.inr (Af _ B)))),λC=> ?_⟩;rcases Aq.1 C with e|C
  ·exact(K.o b (Af _ (Af _ B))).2.1 e
  exact(AE.o b (BE b C).1).2.2 (Af _ B)) (λb B=>(AE.o b (BE b B).1).1.imp id (λh=>h.imp (λh=>AM b (.inl h)) id))
 rw[Qp1 A2.o.mx HH,CI,AN,AI.o,CL.o];exact F0
end Go.Proofs.YtcjngpfigpglfaaGreatDoor
