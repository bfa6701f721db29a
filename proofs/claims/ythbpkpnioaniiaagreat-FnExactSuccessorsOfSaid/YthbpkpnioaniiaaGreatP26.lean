import Derived.Test.YthbpkpnioaniiaaGreatP25
set_option maxHeartbeats 40000000
set_option maxRecDepth 100000
set_option linter.all false
namespace Go.Proofs.YthbpkpnioaniiaaGreat
open Go.RowKit Go.Proofs.Tryz
open Go.Value renaming int->I,slice->A
open Go.IntKind renaming i64->Z
open Option renaming none->N,some->R
open Go renaming World->Bh,madeCells->Dh,heap_alloc_new->Bg
open Go.RowKit renaming Below->Bi,intOf->Bv
open List renaming foldl_cons->Ce,replicate->Cl,range->Bz,replicate_succ->Gg,length_set->Br,foldl_append->De
open Nat renaming reduceAdd->Bj,zero_add->Cd
theorem Qfg(w:Bh)(n:Nat)(H:n<=1000000000):(Instr.makeSlice 63 (I Z (n:Int)) (I Z (n:Int))).run prog w=.ok (A (R ⟨w.heap.size,0,N⟩) n n) (w.alloc (.cells (Dh (I Z 0).cells n) 2)):=by
 obtain⟨B,C,E,F,G⟩:=info_parts Q3n;have:=run_make (P:=prog) w 63 2 B (I Z 0) underlying63 C E Z Z (n:Int) (n:Int) (by omega) (by omega) (by rw[G];omega) (by omega);rw[F]at this;simpa using this
theorem Qk.thruI{C w w':Bh}{E S S':MS}{pb B:Nat}{m F:Qqp}{l G:List Nat}(h:Qk C E pb B w m S l)(k:Qk w S pb B w' F S' G):Qk C E pb B w' F S' G:=
 h.step k.mem k.free k.fresh k.fr k.keep
theorem Q9.cell{b B n:Nat}{w w':Bh}(h:Q9 b B n w w'){C:Array Value}{T:TypeId}(E:w.heap[b]?=R (.cells C T (0,0))){q:Nat}{v:Value}(F:w.cell? ⟨b,q,N⟩=R v)(G:q<B\/B+n<=q):w'.cell? ⟨b,q,N⟩=R v:=by
 obtain⟨L,H,M,J⟩:=h C T E;have K:=J q G;simp only[World.cell?,E]at F;simp only[World.cell?,H];simpa[K]using F
theorem Qit{at1 at2:List Int}{w:Qqt}(B:at1.getD w.1.1.toNat 0=at2.getD w.1.1.toNat 0)(C:at1.getD w.2.1.toNat 0=at2.getD w.2.1.toNat 0)(m:Qqp):Q5m at1 m w=Q5m at2 m w:=by
 unfold Q5m Qak;rw[B,C]
theorem Q74{at1 at2:List Int}:∀(L:List Qqt) (m:Qqp),(∀w∈L,at1.getD w.1.1.toNat 0=at2.getD w.1.1.toNat 0/\at1.getD w.2.1.toNat 0=at2.getD w.2.1.toNat 0)->L.foldl (Q5m at1) m=L.foldl (Q5m at2) m
 | [],_,_=>rfl
 |w::L,m,h=>by rw[Ce,Ce,Qit (h w Ae).1 (h w Ae).2];exact Q74 L _ λv B=>h v (Aa _ B)
theorem Qh4{n:Qr2}(h:Ys n=true){w:Qqt}(B:w∈Zv n):(Q1m n w.1/\w.1.2<(aW (Q7 n w.1.1)).length)/\Q1m n w.2/\w.2.2<(aW (Q7 n w.2.1)).length:=by
 obtain⟨B,C⟩:=List.mem_filter.1 B;obtain⟨E,-,G⟩:=Q2k.1 B;simp only[Bool.and_eq_true,decide_eq_true_eq]at C;obtain⟨F,-,-⟩:=Q1i h E;rw[<-G]at F;exact⟨⟨Q6g h E C.1,(Ja.1 E).2.2⟩,Q6g h F C.2,(Ja.1 F).2.2⟩
def Q0j(w:Bh)(b:Nat)(L:List Int):Prop:=w.heap[b]?=R (.cells (L.map (I Z)).toArray 2 (0,0))
theorem Q0j.cell{w:Bh}{b:Nat}{L:List Int}(h:Q0j w b L){i:Nat}(B:i<L.length):w.cell? ⟨b,i,N⟩=R (I Z (L.getD i 0)):=Q8 h (by rw[Ab,Ad B];simp[B])
theorem Q0j.free{w:Bh}{b:Nat}{L:List Int}(h:Q0j w b L)(q:Nat):w.frozen? ⟨b,q,N⟩=false:=Q0f.free ⟨_,h⟩ q
theorem Q0j.set{w:Bh}{b:Nat}{L:List Int}(h:Q0j w b L)(i:Nat)(v:Int):Q0j (w.setCell ⟨b,i,N⟩ (I Z v)) b (L.set i v):=by
 unfold Q0j at *
 rw[Z2 h];congr 2
 apply Array.toList_inj.1;simp
theorem Q0j.frame{w w':Bh}{b:Nat}{L:List Int}{X:Nat->Prop}(h:Q0j w b L)(k:Q1 X w w')(hX:¬X b):Q0j w' b L:=(k.block b (Zb h) hX).trans h
theorem Q0j.made(w:Bh)(n:Nat):Q0j (w.alloc (.cells (Dh (I Z 0).cells n) 2)) w.heap.size (Cl n 0):=by
 unfold Q0j;rw[Bg];congr 2
 apply Array.toList_inj.1;rw[Qe0,Q76]
def Q6o(n:Qr2)(l:Int)(m:Qqp)(j:Nat):List Int:=(0::(Bz j).map λi=>mF (Q00 n l m i))++Cl (n.length-1-j) 0
theorem Qjx{n:Qr2}{l:Int}{m:Qqp}{j:Nat}(h:j<=n.length-1)(B:1<=n.length):(Q6o n l m j).length=n.length:=by
 unfold Q6o;simp;omega
theorem Qhi{n:Qr2}{l:Int}{m:Qqp}(C:1<=n.length):Q6o n l m 0=Cl n.length 0:=by
 unfold Q6o;obtain⟨k,B⟩:∃k,n.length=k+1:=⟨n.length-1,by omega⟩;rw[B,Gg];rfl
theorem Qip{n:Qr2}{l:Int}{m:Qqp}{j:Nat}(h:j<n.length-1):(Q6o n l m j).set (j+1) (mF (Q00 n l m j))=Q6o n l m (j+1):=by
 unfold Q6o;have B:(0::(Bz j).map λi=>mF (Q00 n l m i)).length=j+1:=by simp
 obtain⟨k,C⟩:∃k,n.length-1-j=k+1:=⟨n.length-1-j-1,by omega⟩;rw[List.set_append_right _ _ (by omega),B,Nat.sub_self,C,Gg,List.set_cons_zero,show n.length-1-(j+1)=k by omega,List.range_succ,List.map_append];simp
theorem Qi7{n:Qr2}{l:Int}{m:Qqp}:Q6o n l m (n.length-1)=(Qqi n l m (n.length-1)).set 0 0:=by
 unfold Q6o Qqi;simp
theorem Ql3{n:Qr2}(h:Ys n=true):2<=n.length:=by
 obtain⟨F,G⟩:=Q6h h;have C:((0:Int),(0:Int))∈Qs n:=Ja.2 ⟨⟨by simp,by simp;omega⟩,by simp,by show(0:Int)<((aW (Qn n 0)).length:Int);omega⟩;obtain⟨B,E,-⟩:=Q1i h C;obtain⟨⟨q1,H⟩,-,-⟩:=Ja.1 B;by_cases e:(Qt n (0,0)).1=0
 ·exact absurd (Q71 h B e) E
 ·omega
theorem Qk8(BS w:Bh)(DZ:Bi BS.heap.size BS w)(g:Nat)(m:Qqp)(S:MS)(l:List Nat)(h:Z8 w g 0 m S)(hl:Yf m l)(hS:∀b∈g::S.all,BS.heap.size<=b)(p0:Option Addr)(c0:Nat)(bk:List Qr2)(CJ:Rd (.slice Je) BS [A p0 bk.length c0] bk)(AV:w.cell? ⟨g,5,N⟩=R (A p0 bk.length c0))(H0:bk.length<=maxLen)
  (kx B vx:Int) (dx:List Int) (wx:List Wd) (px qx:Option Addr) (cx ex:Nat) (b:Int) (n:Qr2) (hv:0<=vx/\vx<bk.length) (hn:Y4 bk vx=n) (CK:Ys n=true) (E0:0<=B/\B<=8) (E1:Vn n B=true) (E2:n.length-1+(Zv n).length<=l.length) (E:0<=b/\b<(mC m).length) (hC:(mC m).length<=1000000) (hX:(mX m).length<=100000):
  Calls prog 210 #[.pointer (R ⟨g,0,N⟩),.agg #[I Z kx,I Z B,I Z vx,A px dx.length cx,A qx wx.length ex],I Z b] w λe w'=>e=.returned (.tuple #[])/\∃S' l',Qk w S g 0 w' (Q3z n B m b) S' l':=by
 have BT:=qh (Qk.start h hl);have CL:=qh h.lt;have HS:=qh hS;have H1:=qh DZ;have JH:=qh CJ;have A0:=qh CK;have AW:=qh E1;have CM:=qh E2;have JI:g<w.heap.size:=h.blk.lt;obtain⟨H2,H3⟩:=hv;obtain⟨hh,CN⟩:=Q4u H2 H3;rw[hn]at CN;obtain⟨bb,ob,rfl,hE⟩:=Rd.elem CJ vx.toNat hh;rw[CN]at hE;obtain⟨qn,qc,n0,-,-,hN⟩:=hE.net;simp only[Ty.sz,Nat.mul_one]at n0;have HN:=qh hN;have HG:=qh h.blk;have CO:=qh AV;have A5:=qh (Qfk CK);have E3:D (-1000<=B/\B<=1000):=qh (by omega);have JJ:=qh n0;unfold maxLen at H0;clear h hl hS DZ CJ CK E1 E2 CN hh hE hN hn;go_enter func210,ntmps210;go_upto_region 1 with fail
 refine Qq ?_;intro W hW;have CP:D (Bi w.heap.size w W):=qh (by rw[hW];go_grown);have E4:W.heap[w.heap.size]?=R (.cells #[I Z kx,I Z B,I Z vx,A px dx.length cx,A qx wx.length ex] 134 (0,0)):=by rw[hW];exact Bg w _
 obtain⟨⟨-,t1,t2,-,-⟩,-⟩:=Y0 E4;have E5:=qh (Q0 H1.o CP.o);have n0:=(Am E5.o).cell _ _ n0;have AV:=(Am CP.o).cell _ _ AV;have H4:=Ac W _ AV;have H5:=Ac W _ n0;have E6:=Ac W _ t1;simp only at H4 H5 E6;have H6:D (∀W',Bi W.heap.size W W'->W'.cell? ⟨g,5,N⟩=R (A (R ⟨bb,ob,N⟩) bk.length c0)/\W'.cell? ⟨w.heap.size,1,N⟩=R (I Z B)/\W'.cell? ⟨w.heap.size,2,N⟩=R (I Z vx)/\W'.cell? ⟨bb,ob+vx.toNat,N⟩=R (A qn n.length qc)):=qh (λW' E=>Q6z E AV t1 t2 n0);have E7:D (∀W',Bi W.heap.size W W'->Rd Je W' [A qn n.length qc] n):=qh (λW' E=>HN.o.kept (Am (Q0 E5.o E)));have E8:Bi W.heap.size W W.drew:=(Ai _ _).drew;have CQ:=qh E8;have CR:D (Bi W.heap.size W ((W.alloc (.cells #[A N 0 0] 71)).drew)):=qh (((Ai _ _).alloc (Aj _) _).drew);have E9:=qh (Aj W.heap.size);clear hW E4 t1 t2 n0 AV E8;go_cut [6] (λx wz=>∃(X:Nat) (pN:Option Addr) (cN:Nat),x=.pointer (R ⟨X,0,N⟩)/\W.heap.size<=X/\wz.heap[X]?=R (.cells #[A pN n.length cN] 71 (0,0))/\(∃Fn,Ow Je wz [A pN n.length cN] (Yq n B) Fn/\∀q∈Fn,W.heap.size<=q/\q≠X)/\Bi W.heap.size W wz)
 case first=>
  go_region_held3(λW'=>W'.cell? ⟨g,5,N⟩=R (A (R ⟨bb,ob,N⟩) bk.length c0)/\W'.cell? ⟨w.heap.size,1,N⟩=R (I Z B)/\W'.cell? ⟨w.heap.size,2,N⟩=R (I Z vx)/\W'.cell? ⟨bb,ob+vx.toNat,N⟩=R (A qn n.length qc))
   (((refine H6.o _ ?_);(first|with_reducible exact A6.o|with_reducible exact A6.o.alloc A6.o.size _|(with_reducible exact(A6.o.alloc A6.o.size _).setCell A6.o.size _)|(with_reducible exact A6.o.setCell E9.o _)|with_reducible exact CQ.o|with_reducible exact CR.o|go_grown)))
   (first
    |((go_at_call 241;(with_reducible refine(Q2p W.drew [A qn n.length qc] n B (E7.o _ CQ.o) A5.o.1 A5.o.2.1 A5.o.2.2 E3.o).mono ?_);rintro e AX ⟨EA,H7,EB,rfl,hn,E⟩;rw[AW.o];have EC:=qh (hn AW.o);have A6:=qh (Q0 CQ.o E);clear E hn))
    |((go_at_call 241;(with_reducible refine(Q2p ((W.alloc (.cells #[A N 0 0] 71)).drew) [A qn n.length qc] n B (E7.o _ CR.o) A5.o.1 A5.o.2.1 A5.o.2.2 E3.o).mono ?_);rintro e AX ⟨EA,H7,EB,rfl,hn,E⟩;rw[AW.o];have EC:=qh (hn AW.o);have A6:=qh (Q0 CR.o E);have BU:=Qe (w:=(W.alloc (.cells #[A N 0 0] 71)).drew) (Bg W (.cells #[A N 0 0] 71)) E;have H8:=qh BU;have JK:AX.cell? ⟨W.heap.size,0,N⟩=R (A N 0 0):=Q8 BU rfl;have JL:AX.frozen? ⟨W.heap.size,0,N⟩=false:=Q0f.free ⟨_,BU⟩ 0;clear E hn BU))
    |fail)
  all_goals(go_wp2_with fail;go_meet)
  all_goals
   obtain⟨F,o,nd,r⟩:=EC.o;obtain⟨p',c',CS⟩:=o.slice_form;rw[Ym]at CS;simp only[Value.slice.injEq]at CS;obtain⟨rfl,rfl,rfl⟩:=CS
  ·refine⟨AX.heap.size,_,_,rfl,A6.o.size,Bg AX _,⟨F,o.kept λb E=>Az _ _ _ (r b E).2,λq G=>⟨(r q G).1,λe=>by have:=(r q G).2;omega⟩⟩,A6.o.alloc A6.o.size _⟩
  ·have C:=Q16 (o:=0) (v:=A EA n.length EB) (Q1.refl (λc=>c=W.heap.size) AX)
   have hz:W.heap.size<((W.alloc (.cells #[A N 0 0] 71)).drew).heap.size:=by show _<(W.alloc _).heap.size;simp
   refine⟨W.heap.size,_,_,rfl,Aj _,(by rw[Z2 H8.o];simp),⟨F,o.frame C λb E=>⟨(r b E).2,λe=>by have h1:=(r b E).1;have h2:b=W.heap.size:=e;omega⟩,λq G=>⟨by have:=(r q G).1;omega,λe=>by have:=(r q G).1;omega⟩⟩,A6.o.setCell E9.o _⟩
 case rest=>
  obtain⟨X,pN,cN,rfl,H9,A7,⟨Fn,BV,A8⟩,BW⟩:=hcut;have JM:=Ql3 A0.o;have JN:=qh BW;have CT:=qh (Q0 CP.o BW);have JO:=BW.size;have JP:w.heap.size<W.heap.size:=E6;have HA:=qh (Qk.start (BT.o.below CT.o).mem (BT.o.below CT.o).free);have HB:=qh A8;have ED:=qh BV;have EE:=qh A7;obtain⟨bN,oN,rfl,-⟩:=Rd.elem BV.rd 0 (by rw[Ym];omega);have CU:D (∀V,Q1 (λc=>c=g\/c∈S.all) wc V->V.heap[X]?=R (.cells #[A (R ⟨bN,oN,N⟩) n.length cN] 71 (0,0))/\Ow Je V [A (R ⟨bN,oN,N⟩) n.length cN] (Yq n B) Fn):=qh (λV C=>by have EF:∀q,W.heap.size<=q->¬(q=g\/q∈S.all):=λq G e=>e.elim (λe=>by omega) (λe=>by have:=CL.o q (Aa _ e);omega);exact⟨(C.block X (Zb EE.o) (EF X H9)).trans EE.o,ED.o.frame C λq G=>⟨ED.o.lt q G,EF q (HB.o q G).1⟩⟩);have B7:D (∀V,Q1 (λc=>c=g\/c∈S.all) wc V->At Je V X 0 (Yq n B)):=qh (λV C=>At.ofBox (us:=[A (R ⟨bN,oN,N⟩) n.length cN]) (CU.o V C).1 (CU.o V C).2.rd);have x0:wc.cell? ⟨X,0,N⟩=R (A (R ⟨bN,oN,N⟩) n.length cN):=Q8 A7 rfl;have JQ:=Zb A7;obtain⟨-,-,JR⟩:True/\True/\(n.length<=cN/\cN<=maxLen):=by
   obtain⟨v',ev,h⟩:=BV;rcases h with⟨hx,-⟩|⟨b9,o9,JS,HC,T,Fs,hv,h1,h2,-⟩
   ·have h9:=Ym n B
    rw[hx]at h9;simp at h9;omega
   ·have:A (R ⟨bN,oN,N⟩) n.length cN=v':=by simpa using ev
    rw[hv]at this;simp only[Value.slice.injEq]at this;rw[Ym]at h1;exact⟨trivial,trivial,by omega,by omega⟩
  have HD:=λV=>Qfg V n.length (by have:=A5.o.1;omega);have HE:D (∀V:Bh,Q0j (V.alloc (.cells (Dh (I Z 0).cells n.length) 2)) V.heap.size (Cl n.length 0)):=qh (λV=>Q0j.made V n.length);generalize Dh (I Z 0).cells n.length=HC at *
  have g1:(1:Int)<=n.length:=by omega
  have g2:(n.length:Int)<=cN:=by omega
  have g3:(1:Int)<=cN:=by omega
  have g4:(cN:Int)≠1:=by omega
  have g5:cN≠1:=by omega
  clear BW A8 BV A7;go_upto_region 4 with fail
  refine Qq ?_;intro W3 CV;have HF:D (Bi wc.heap.size wc W3):=qh (by rw[CV];go_grown);have HH:D (Q0j W3 wc.heap.size (Q6o n B m 0)):=qh (by rw[Qhi (by omega),CV];exact HE.o wc);have HI:=qh (HA.o.below HF.o);have HJ:D (wc.heap.size∉S.all):=qh (λh=>by have:=CL.o _ (Aa _ h);omega);have CW:D (S.cb<w.heap.size):=qh (CL.o _ (Aa _ Ae));clear CV HD x0;go_loopw [42] (λi wr=>∃(j:Nat) (S':MS),j<=n.length-1/\i=I Z j/\D (Qk wc S g 0 wr (Q00 n B m j) S' (l.drop j))/\D (Q0j wr wc.heap.size (Q6o n B m j))/\D (wc.heap.size∉S'.all)) (λi _=>n.length-(Bv i).toNat);case atStart=>exact⟨0,S,Ak _,rfl,HI.o,HH.o,HJ.o⟩
  case round=>
   obtain⟨j,S',hj,rfl,A9,AY,CX⟩:=hrel;have HK:=A9.o.fr.size;by_cases HL:j<n.length-1
   ·have EG:j<l.length:=by have:=CM.o;omega
    have HM:D (l.drop j=l.getD j 0::l.drop (j+1)):=qh (by rw[List.drop_eq_getElem_cons EG,Ab,Ad EG];rfl);generalize l.getD j 0=f at *
    rw[HM.o]at A9;have EH:j+1<(Yq n B).length:=by rw[Ym];omega
    obtain⟨bq,oq,EI,hA⟩:=Rd.elem (CU.o _ A9.o.fr).2.rd (j+1) EH;simp only[Option.some.injEq,Addr.mk.injEq,and_true]at EI;obtain⟨rfl,rfl⟩:=EI;rw[<-Qx EH]at hA;have HO:D (Q00 n B m (j+1)=Qj (Q00 n B m j) (Qhn (Qn (Yq n B) (j+1)))):=qh (by rw[Qfc];rfl);have EJ:D (((aD (Qn (Yq n B) (j+1))).length<=100000000/\(aW (Qn (Yq n B) (j+1))).length<=100000000)/\1<=(aW (Qn (Yq n B) (j+1))).length):=qh (by
     have hm:Qn n (j+1)∈n:=by rw[Qx (by omega)];exact As _
     have h1:=A5.o.2.1 _ hm;have h2:=Q31 ((Y5 A0.o).2.1 (j+1) (by omega));rw[Q4x];exact⟨h1,h2⟩)
    generalize Qn (Yq n B) (j+1)=x at *
    obtain⟨k,lv,v,d,ws⟩:=x;obtain⟨pd,cd,pw,cw,⟨a0,J,U,a3,a4⟩,hi,⟨-,-,hd⟩,⟨-,-,hw⟩⟩:=hA.agent;have HP:D (∀V,Bi wr.heap.size wr V->Rd Q3 V [I Z k,I Z lv,I Z v,A pd d.length cd,A pw ws.length cw] (k,lv,v,d,ws)):=qh (λV E=>Q4l hi.1 hi.2.1 hi.2.2 (hd.kept (Am E)) (hw.kept (Am E)));have EK:bN=bN/\oN+(j+1) * Q3.sz=oN+5+j * 5:=⟨rfl,by simp only[Ty.sz,Bj];omega⟩;rw[EK.2]at a0 J U a3 a4;have HR:=Ac wr _ a0;simp only at HR;have CY:(0:Int)<=j:=by omega
    have CZ:(j:Int)<((n.length-1:Nat):Int):=by omega
    have JT:(j:Int)+1<n.length:=by omega
    have JU:(0:Int)<=(j:Int)+1:=by omega
    have JV:((j:Int)+1).toNat=j+1:=by omega
    have JW:IntKind.i64.wrap ((j:Int)+1)=(j:Int)+1:=by have:=A5.o.1;simp only[IntKind.wrap_i64];omega
    have D0:D (mF (Q00 n B m j)=(f:Int)):=qh ((A9.o.first Z5).1);have HT:D ((Q6o n B m j).set (j+1) (f:Int)=Q6o n B m (j+1)):=qh (by rw[<-D0.o];exact Qip HL);have HU:D ((Q6o n B m j).length=n.length):=qh (Qjx hj (by omega));clear hA hd hw hi EK;go_upto_region 6 with fail
    refine Qq ?_;intro H A1;have A2:D (Bi wr.heap.size wr H):=qh (by rw[A1];go_grown);obtain⟨g0,B8,EL,EM,EN⟩:=Q0n wr (I Z k) (I Z lv) (I Z v) (A pd d.length cd) (A pw ws.length cw) 128;rw[<-A1]at g0 B8 EL EM EN;have JX:wr.heap.size<H.heap.size:=by rw[A1];simp
    have AK:=qh (A9.o.below A2.o);have AL:=qh (AY.o.frame (X:=λ_=>False) (Ay A2.o) id);have HV:D (∀V,Q1 (λc=>c=g\/c=S.cb\/c=wc.heap.size) H V->V.cell? ⟨wr.heap.size,0,N⟩=R (I Z k)/\V.cell? ⟨wr.heap.size,1,N⟩=R (I Z lv)/\V.cell? ⟨wr.heap.size,2,N⟩=R (I Z v)/\V.cell? ⟨wr.heap.size,3,N⟩=R (A pd d.length cd)/\V.cell? ⟨wr.heap.size,4,N⟩=R (A pw ws.length cw)):=qh (λV C=>by
     have JY:=Zb AY.o;have B9:¬(wr.heap.size=g\/wr.heap.size=S.cb\/wr.heap.size=wc.heap.size):=by
      rintro(e|e|e)
      ·omega
      ·have:=CW.o;omega
      ·omega
     exact Q4w C g0 B8 EL EM EN B9 B9 B9 B9 B9)
    have EO:D (Bi H.heap.size H H.drew):=qh ((Ai _ _).drew);have HW:D (Q1 (λc=>c=g\/c=S.cb\/c=wc.heap.size) H H.drew):=qh ((Q1.refl _ _).drew);have JZ:D ((λc=>c=g\/c=S.cb\/c=wc.heap.size) wc.heap.size):=qh (.inr (.inr rfl));have HX:=qh A9.o.mem.lt;clear A1 a0 J U a3 a4
    go_region_held3(λV=>V.cell? ⟨wr.heap.size,0,N⟩=R (I Z k)/\V.cell? ⟨wr.heap.size,1,N⟩=R (I Z lv)/\V.cell? ⟨wr.heap.size,2,N⟩=R (I Z v)/\V.cell? ⟨wr.heap.size,3,N⟩=R (A pd d.length cd)/\V.cell? ⟨wr.heap.size,4,N⟩=R (A pw ws.length cw))
     (((with_reducible refine HV.o _ ?_);(first|with_reducible exact EP.o|with_reducible exact EQ.o|with_reducible exact HW.o|(exact HY.o (j+1) (I Z f))|fail)))
     (first
      |((go_at_call 243;(with_reducible refine(Qe3 _ [I Z k,I Z lv,I Z v,A pd d.length cd,A pw ws.length cw] (k,lv,v,d,ws) (HP.o _ (Q0 A2.o EO.o)) EJ.o.1 EJ.o.2).mono ?_);rintro e wA ⟨vs,rfl,hn,E⟩;obtain⟨HZ,I0,I1,I2,rfl⟩:=hn.agentShape;obtain⟨GA,ER,ES,ET⟩:=hn;have I3:=qh ER;have I4:=qh ES;have D1:D (∀q∈GA,H.heap.size<=q):=qh (λq G=>(ET q G).1);have AB:=qh (Q0 EO.o E);have I5:=qh (AK.o.below AB.o);have EQ:D (Q1 (λc=>c=g\/c=S.cb\/c=wc.heap.size) H wA):=qh (Ay AB.o);clear E ER ES ET))
      |((go_at_call 242;(with_reducible refine(Q4k I5.o _ _ _ HZ I1 _ I0 _ I2 (Qhn (k,lv,v,d,ws)) GA I3.o I4.o (λq G hm=>(show False from by have h1:=D1.o q G;have h2:=HX.o q hm;omega)) (λq G=>by have h1:=D1.o q G;omega)).mono ?_);rintro e wT ⟨rfl,y,C⟩;have I6:=qh y;have EP:=qh (EQ.o.trans (C.mono λc z=>z.elim .inl λh=> .inr (.inl h)));have HY:D (∀(o:Nat) (v:Value),Q1 (λc=>c=g\/c=S.cb\/c=wc.heap.size) H (wT.setCell ⟨wc.heap.size,o,N⟩ v)):=qh (λo v=>EP.o.setCell (.inr (.inr rfl)) v);have BX:=qh ((AL.o.frame (X:=λ_=>False) (Ay AB.o) id).frame C (λe=>e.elim (λe=>(show False from by omega)) (λe=>(show False from by have:=CW.o;omega))));have ci:=BX.o.cell (i:=j+1) (by have:=HU.o;omega);have cf:=BX.o.free (j+1);have K0:=Zb BX.o;clear y C))
      |fail)
    go_wp2_with fail
    go_roundw;case rel=>
     have I7:∀q∈GA,wc.heap.size<q:=λq G=>by have h1:=D1.o q G;omega
     have EU:wc.heap.size∉(S'.put (f:Int) GA).all:=λhm=>(Zf hm).elim (λh=>by have:=I7 _ h;omega) CX.o;refine⟨j+1,S'.put (f:Int) GA,by omega,by go_num,(show Qk _ _ _ _ _ _ _ _ from ?_),(show Q0j _ _ _ from ?_),EU⟩
     ·rw[HO.o]
      refine I6.o.other (Y:=λc=>c=wc.heap.size) (Q16 (Q1.refl _ _)) (λc z=> ?_);have e:c=wc.heap.size:=z;rw[e];refine⟨λhm=>(Aq.1 hm).elim (λh=>by omega) EU,Aj _⟩
     ·rw[<-HT.o];exact BX.o.set (j+1) (f:Int)
    case measure=>simp[Bv];omega
   ·have EV:j=n.length-1:=by omega
    have I8:=qh EV;rw[I8.o]at A9 AY;rw[Qi7]at AY;have K1:¬((j:Int)<((n.length-1:Nat):Int)):=by omega
    have EW:D (Yt n ((Qqi n B m (n.length-1)).set 0 0) (mC m).length (Q00 n B m (n.length-1)) (l.drop (n.length-1))):=qh (by obtain⟨h1,h2,h3⟩:=Q9b (n:=n) (by_:=B) BT.o.free (by have:=CM.o;omega);exact⟨h1,h2,λi hi hn=>by rw[Vw _ _ hi];exact h3 i hi hn⟩);have EX:D ((Zv n).length<=(l.drop (n.length-1)).length):=qh (by rw[List.length_drop];have:=CM.o;omega);have I9:D (∀m2 m3:Qqp,Q3z n B m b=Q3z n B m b):=qh (λ_ _=>rfl);have AZ:D (Q3z n B m b=(let m3:=(Yd n).foldl (λmm p=>Yu mm (((Qqi n B m (n.length-1)).set 0 b).getD p.1.toNat 0) (((Qqi n B m (n.length-1)).set 0 b).getD p.2.toNat 0)) (((Qs n).filter (Q7b n)).foldl (Q78 n ((Qqi n B m (n.length-1)).set 0 b)) ((Zv n).foldl (Q5m ((Qqi n B m (n.length-1)).set 0 0)) (Q00 n B m (n.length-1))));if(Qt n (0,0)).2==0 then Yu m3 b (((Qqi n B m (n.length-1)).set 0 b).getD (Qt n (0,0)).1.toNat 0)else m3)):=qh (by unfold Q3z;simp only[];rw[Q74 (at1:=(Qqi n B m (n.length-1)).set 0 b) (at2:=(Qqi n B m (n.length-1)).set 0 0) (Zv n) _ (λw hw=>by obtain⟨⟨⟨⟨h1,-⟩,-⟩,-⟩,⟨⟨h2,-⟩,-⟩,-⟩:=Qh4 A0.o hw;exact⟨by rw[Vw _ _ (by omega),Vw _ _ (by omega)],by rw[Vw _ _ (by omega),Vw _ _ (by omega)]⟩)]);have EY:((Qqi n B m (n.length-1)).set 0 b)=(((Qqi n B m (n.length-1)).set 0 0).set 0 b):=by rw[List.set_set]
    have BA:D (((Qqi n B m (n.length-1)).set 0 0).length=n.length):=qh (by rw[Br,Qca];omega);have IA:D (mX (Q00 n B m (n.length-1))=mX m):=qh (Q94 n B m _);rw[EY]at AZ;clear EV EY I9;generalize Q00 n B m (n.length-1)=m1 at *
    generalize (Qqi n B m (n.length-1)).set 0 0=at0 at *
    generalize l.drop (n.length-1)=l1 at *
    have EZ:=qh (B7.o _ A9.o.fr);go_upto_region 9 with((go_at_call 239;(with_reducible refine(Qhd _ X 0 (Yq n B) EZ.o (Qh5 A0.o E0.1 AW.o)).mono ?_);rintro e wI ⟨vI,rfl,BY,F0⟩;rw[Qdy]at BY;obtain⟨pI,cI,rfl,-,-⟩:=BY.form;have F1:=qh BY;have D2:=qh F0;clear BY F0))
    have F2:=qh (A9.o.below D2.o);have F3:=qh (AY.o.frame (X:=λ_=>False) (Ay D2.o) id);obtain⟨FI,AH,A8,AA⟩:=F1.o.ow rfl;have F4:D (Qg3 Qu FI wc S' wI (A pI (Zv n).length cI) (Zv n)):=qh (⟨AH,A8,λq G=>⟨Au HK (AA q G).1,λhm=>by have h1:=(AA q G).1;have h2:=A9.o.mem.lt _ (Aa _ hm);omega⟩⟩);have IB:D (∀w∈Zv n,(Q1m n w.1/\w.1.2<(aW (Q7 n w.1.1)).length)/\Q1m n w.2/\w.2.2<(aW (Q7 n w.2.1)).length):=qh (λw hw=>Qh4 A0.o hw);have IC:D ((Zv n).length<=10000000):=qh (Q63 (Y5 A0.o).2.2.2);have BB:=qh (Y5 A0.o).2.2.1;have A3:D (g<wc.heap.size/\S.cb<wc.heap.size):=qh (⟨by omega,by have:=CW.o;omega⟩);clear AH A8 AA F1 A9 AY D2;generalize hI:Zv n=M at *
    clear hI;go_loopw [60] (λi wr=>∃(j:Nat) (S':MS) (l':List Nat),j<=M.length/\i=I Z j/\D (Qk wc S g 0 wr ((M.take j).foldl (Q5m at0) m1) S' l')/\D (Yt n at0 (mC m).length ((M.take j).foldl (Q5m at0) m1) l')/\D (M.length<=l'.length+j)/\D (Q0j wr wc.heap.size at0)/\D (wc.heap.size∉S'.all)/\D (Qg3 Qu FI wc S' wr (A pI M.length cI) M)) (λi _=>M.length-(Bv i).toNat);case atStart=>exact⟨0,S',l1,Ak _,rfl,F2.o,EW.o,EX.o,F3.o,CX.o,F4.o⟩
    case round=>
     clear F2 EW EX F3 CX F4 EZ;rename Bh=>wr2
     obtain⟨j2,u,l2,K2,rfl,B0,B1,F5,B2,B3,D3⟩:=hrel;by_cases BZ:j2<M.length
     ·obtain⟨e,l3,rfl⟩:∃e l3,l2=e::l3:=by
       match l2,(show 0<l2.length by have:=F5.o;omega)with
       |e::l3,_=>exact⟨e,l3,rfl⟩
      obtain⟨bI,oI,rfl,hE⟩:=Rd.elem D3.o.1.rd j2 BZ;have A4:D ((M.take (j2+1)).foldl (Q5m at0) m1=Q5m at0 ((M.take j2).foldl (Q5m at0) m1) M[j2]):=qh (by rw[An BZ,De];rfl);have F6:=qh (IB.o M[j2] (As BZ));generalize M[j2]=wi at *
      generalize (M.take j2).foldl (Q5m at0) m1=mj at *
      obtain⟨⟨J,s1⟩,⟨U,s2⟩⟩:=wi;obtain⟨⟨e0,e1,e2,e3⟩,F7,F8,K3,K4⟩:=At.link hE;simp only[Ty.sz,Bj]at e0 e1 e2 e3;have K5:=B0.o.fr.size;obtain⟨F9,FA,K6⟩:=B1.o.var;have D4:=qh F9;have D0:=qh FA;have CY:(0:Int)<=j2:=by omega
      have CZ:(j2:Int)<M.length:=by omega
      have FB:=qh BZ;have K7:M.length<=10000000:=IC.o;have FC:=qh B0.o.mem.lt;clear hE F9 FA;go_upto_region 11 with fail
      refine Qq ?_;intro H A1;have A2:D (Bi wr2.heap.size wr2 H):=qh (by rw[A1];go_grown);have AC:H.heap[wr2.heap.size]?=R (.cells #[I Z J,I Z s1,I Z U,I Z s2] 272 (0,0)):=by rw[A1];exact Bg wr2 _
      have C0:=qh AC;have AK:=qh (B0.o.below A2.o);have AL:=qh (B2.o.frame (X:=λ_=>False) (Ay A2.o) id);have D5:=qh (D3.o.step (X:=λ_=>False) (Ay A2.o) (λ_ h=>h.elim) (λb h=> .inl h));clear A1 AC e0 e1 e2 e3;go_upto_region 12 with((go_at_call 244;(with_reducible refine(Q62 AK.o).mono ?_);rintro e' w6 ⟨rfl,y,C⟩;have AE:=qh y;have C1:=qh C;clear y C))
      refine Qq ?_;intro W7 D6;have C2:D (Bi w6.heap.size w6 W7):=qh (by rw[D6];go_grown);have FD:W7.heap[w6.heap.size]?=R (.cells #[I Z 2,I Z e] 40 (0,0)):=by rw[D6];exact Bg w6 _
      have D7:=qh FD;have ID:=Zb C0.o;have K8:=C1.o.size;have D8:D (W7.heap[wr2.heap.size]?=R (.cells #[I Z J,I Z s1,I Z U,I Z s2] 272 (0,0))):=qh (Qe ((C1.o.block wr2.heap.size ID (λe=>e.elim (λe=>by have:=A3.o.1;omega) (λe=>by have:=A3.o.2;omega))).trans C0.o) C2.o);have D9:=qh (AE.o.below C2.o);have FE:=qh ((AL.o.frame C1.o (λe=>e.elim (λe=>by have:=A3.o.1;omega) (λe=>by have:=A3.o.2;omega))).frame (X:=λ_=>False) (Ay C2.o) id);have C3:D (∀q∈(u.put (e:Int) []).all,q∈u.all):=qh (λq G=>(Zf G).elim (λh=>by simp at h) id);have IE:=qh ((D5.o.step C1.o (S':=u.put (e:Int) []) (λc z=> .inl (z.elim (λe=>by have:=A3.o.1;omega) (λe=>by have:=A3.o.2;omega))) (λb E=> .inl (C3.o b E))).step (X:=λ_=>False) (Ay C2.o) (λ_ h=>h.elim) (λb h=> .inl h));clear D6 FD;have K:D (wr2.heap.size∉(u.put (e:Int) []).all/\w6.heap.size∉(u.put (e:Int) []).all):=qh (⟨λh=>by have:=FC.o _ (Aa _ (C3.o _ h));omega,λh=>by have:=FC.o _ (Aa _ (C3.o _ h));omega⟩);have BC:D (wc.heap.size∉(u.put (e:Int) []).all):=qh (λh=>B3.o (C3.o _ h));have C4:D (Qqm (2:Int)/\Qqm (e:Int)):=qh (⟨by unfold Qqm;omega,by unfold Qqm;omega⟩);have IF:=qh D7.o;have FF:D (Q5m at0 mj ((J,s1),(U,s2))=Qh (Qh (Qv mj) (at0.getD J.toNat 0) (s1-1) (2,(e:Int))) (at0.getD U.toNat 0) (s2-1) (2,(e:Int))):=qh (by unfold Q5m Qak;rw[D0.o]);have FG:=qh F6.o.1;obtain⟨⟨BD,AM⟩,AN⟩:=FG.o.1;have C5:=FG.o.2;simp only at BD AM AN C5;obtain⟨BE,BF,BG,BH⟩:=D4.o.2.2 J.toNat (by omega) (by omega);have BI:D ((s1-1<((aW (Q7 (mC (Qv mj)) (at0.getD J.toNat 0))).length:Int))/\at0.getD J.toNat 0<((mC (Qv mj)).length:Int)):=qh (⟨by rw[BH];have h:(s1:Int)<(aW (Qn n J.toNat)).length:=C5;omega,by rw[D4.o.1];exact BF⟩);have DA:D (∀V,Bi W7.heap.size W7 V->V.cell? ⟨wc.heap.size,0+J.toNat,N⟩=R (I Z (at0.getD J.toNat 0))):=qh (λV E=>by rw[Cd];exact((FE.o.frame (X:=λ_=>False) (Ay E) id)).cell (by rw[BA.o];omega));have DB:D ((0:Int)<s1/\s1<=1000):=qh (⟨AN,by have h:=BB.o J.toNat;have h2:(s1:Int)<(aW (Qn n J.toNat)).length:=C5;omega⟩);have DC:D ((0:Int)<=J/\J<(n.length:Int)):=qh (⟨by omega,AM⟩);have AO:=qh (And.intro BE BG);obtain⟨⟨FH,FJ,IG,IH⟩,-⟩:=Qny D8.o;obtain⟨⟨FK,FL⟩,-⟩:=Za IF.o;have B4:D (∀V,Q1 (λc=>c∈(u.put (e:Int) []).all) W7 V->(V.cell? ⟨wr2.heap.size,0,N⟩=R (I Z J)/\V.cell? ⟨wr2.heap.size,1,N⟩=R (I Z s1))/\V.cell? ⟨w6.heap.size,0,N⟩=R (I Z 2)/\V.cell? ⟨w6.heap.size,1,N⟩=R (I Z e)):=qh (λV C=>⟨⟨Qf C FH K.o.1,Qf C FJ K.o.1⟩,Qf C FK K.o.2,Qf C FL K.o.2⟩);have DD:D (Bi W7.heap.size W7 W7.drew):=qh ((Ai _ _).drew);have C6:D (Q1 (λc=>c∈(u.put (e:Int) []).all) W7 W7.drew):=qh ((Q1.refl _ _).drew);have II:=qh D9.o.drew;clear BD AM AN C5 BE BF BG BH FH FJ IG IH FK FL;go_upto_region 12 with fail
      go_region_held3(λV=>(V.cell? ⟨wr2.heap.size,0,N⟩=R (I Z J)/\V.cell? ⟨wr2.heap.size,1,N⟩=R (I Z s1))/\V.cell? ⟨w6.heap.size,0,N⟩=R (I Z 2)/\V.cell? ⟨w6.heap.size,1,N⟩=R (I Z e))
       (first|with_reducible exact B4.o _ AF.o|with_reducible exact B4.o _ C6.o|fail)
       ((go_at_call 245;(with_reducible refine(Q7r II.o wc.heap.size 0 n.length n.length J s1 2 e (at0.getD J.toNat 0) DC.o DB.o (DA.o _ DD.o) ⟨BC.o,by have:=A3.o.1;omega⟩ AO.o.1 BI.o.2 AO.o.2 BI.o.1 C4.o.1 C4.o.2).mono ?_);rintro e' w8 ⟨rfl,y,C⟩;have AP:=qh y;have AF:=qh (C6.o.trans C);clear y C))
      have C7:=qh (FE.o.frame AF.o BC.o);have DE:=qh (IE.o.step AF.o (λc z=> .inr z) (λb E=> .inl E));have DF:=qh ((AF.o.block wr2.heap.size (Zb D8.o) K.o.1).trans D8.o);have DG:=qh (D4.o.set (c:=at0.getD J.toNat 0) (k:=s1-1) (x:=(2,(e:Int))) AO.o.2);have IJ:=qh ((AF.o.block w6.heap.size (Zb D7.o) K.o.2).trans D7.o);go_wp2_with fail
      have FM:=qh F6.o.2;obtain⟨⟨FN,DH⟩,DI⟩:=FM.o.1;have C8:=FM.o.2;simp only at FN DH DI C8;obtain⟨FO,FR,FT,FU⟩:=DG.o.2.2 U.toNat (by omega) (by omega);have FV:D ((s2-1<((aW (Q7 (mC (Qh (Qv mj) (at0.getD J.toNat 0) (s1-1) (2,(e:Int)))) (at0.getD U.toNat 0))).length:Int))/\at0.getD U.toNat 0<((mC (Qh (Qv mj) (at0.getD J.toNat 0) (s1-1) (2,(e:Int)))).length:Int)):=qh (⟨by rw[FU];have h:(s2:Int)<(aW (Qn n U.toNat)).length:=C8;omega,by rw[DG.o.1];exact FR⟩);have IK:D (∀V,Bi w8.heap.size w8 V->V.cell? ⟨wc.heap.size,0+U.toNat,N⟩=R (I Z (at0.getD U.toNat 0))):=qh (λV E=>by rw[Cd];exact((C7.o.frame (X:=λ_=>False) (Ay E) id)).cell (by rw[BA.o];omega));have IL:D ((0:Int)<s2/\s2<=1000):=qh (⟨DI,by have h:=BB.o U.toNat;have h2:(s2:Int)<(aW (Qn n U.toNat)).length:=C8;omega⟩);have IM:D ((0:Int)<=U/\U<(n.length:Int)):=qh (⟨by omega,DH⟩);have DJ:=qh (And.intro FO FT);obtain⟨⟨IN,IP,FW,FX⟩,-⟩:=Qny DF.o;obtain⟨⟨FY,FZ⟩,-⟩:=Za IJ.o;have G0:D (∀V,Q1 (λc=>c∈(u.put (e:Int) []).all) w8 V->(V.cell? ⟨wr2.heap.size,2,N⟩=R (I Z U)/\V.cell? ⟨wr2.heap.size,3,N⟩=R (I Z s2))/\V.cell? ⟨w6.heap.size,0,N⟩=R (I Z 2)/\V.cell? ⟨w6.heap.size,1,N⟩=R (I Z e)):=qh (λV C=>⟨⟨Qf C FW K.o.1,Qf C FX K.o.1⟩,Qf C FY K.o.2,Qf C FZ K.o.2⟩);have IQ:D (Bi w8.heap.size w8 w8.drew):=qh ((Ai _ _).drew);have G1:D (Q1 (λc=>c∈(u.put (e:Int) []).all) w8 w8.drew):=qh ((Q1.refl _ _).drew);have IR:=qh AP.o.drew;clear FN DH DI C8 FO FR FT FU IN IP FW FX FY FZ;go_upto_region 13 with fail
      go_region_held3(λV=>(V.cell? ⟨wr2.heap.size,2,N⟩=R (I Z U)/\V.cell? ⟨wr2.heap.size,3,N⟩=R (I Z s2))/\V.cell? ⟨w6.heap.size,0,N⟩=R (I Z 2)/\V.cell? ⟨w6.heap.size,1,N⟩=R (I Z e))
       (first|with_reducible exact G0.o _ C9.o|with_reducible exact G0.o _ G1.o|fail)
       ((go_at_call 245;(with_reducible refine(Q7r IR.o wc.heap.size 0 n.length n.length U s2 2 e (at0.getD U.toNat 0) IM.o IL.o (IK.o _ IQ.o) ⟨BC.o,by have:=A3.o.1;omega⟩ DJ.o.1 FV.o.2 DJ.o.2 FV.o.1 C4.o.1 C4.o.2).mono ?_);rintro e' w9 ⟨rfl,y,C⟩;have IS:=qh y;have C9:=qh (G1.o.trans C);clear y C))
      have IT:=qh (C7.o.frame C9.o BC.o);have IU:=qh (DE.o.step C9.o (λc z=> .inr z) (λb E=> .inl E));have K9:=qh ((C9.o.block wr2.heap.size (Zb DF.o) K.o.1).trans DF.o);have IV:=qh (DG.o.set (c:=at0.getD U.toNat 0) (k:=s2-1) (x:=(2,(e:Int))) DJ.o.2);go_wp2_with fail
      go_roundw;case rel=>exact⟨j2+1,u.put (e:Int) [],l3,by have:=FB.o;omega,by go_num,(show Qk _ _ _ _ _ _ _ _ by rw[A4.o,FF.o];exact IS.o),(show Yt _ _ _ _ _ by rw[A4.o,FF.o];exact IV.o),(show _<=_ by have:=F5.o;simp only[List.length_cons]at this;omega),IT.o,BC.o,IU.o⟩
      case measure=>simp[Bv];have:=FB.o;omega
     ·have IW:j2=M.length:=by omega
      have CA:D (M.take j2=M):=qh (Ao (by omega));rw[CA.o]at B0 B1;have KA:¬((j2:Int)<M.length):=by omega
      have IX:D (mX (M.foldl (Q5m at0) m1)=mX m1):=qh (Qgm (f:=Q5m at0) (λ_ _=>rfl) M m1);generalize hm2:M.foldl (Q5m at0) m1=m2 at *
      clear hm2 IW;have ci:=B2.o.cell (i:=0) (by rw[BA.o];omega);have cf:=B2.o.free 0;have KB:=Zb B2.o;have KC:(0:Int)<n.length:=by omega
      go_upto_region 16 with fail
      refine Qq ?_;intro G2 DK;have IY:D (Q1 (λc=>c=wc.heap.size) wr2 G2):=qh (by rw[DK];exact Q16 (Q1.refl _ _));have BJ:=qh (B0.o.other IY.o (λc z=>by have e:c=wc.heap.size:=z;rw[e];exact⟨λhm=>(Aq.1 hm).elim (λh=>by have:=A3.o.1;omega) B3.o,Aj _⟩));have G3:D (Q0j G2 wc.heap.size (at0.set 0 b)):=qh (by rw[DK];exact B2.o.set 0 b);have BK:D ((at0.set 0 b).length=n.length):=qh (by rw[Br];exact BA.o);have G4:D (Yt n (at0.set 0 b) (mC m).length m2 l2):=qh (⟨B1.o.1,B1.o.2.1,λi hi hn=>by rw[Vw _ _ hi];exact B1.o.2.2 i hi hn⟩);have G5:=qh (B7.o _ BJ.o.fr);have G6:D ((at0.set 0 b).getD 0 0=b):=qh (Qj3 _ _ (by rw[BA.o];omega));clear DK ci cf B2 B1 B0 D3;generalize at0.set 0 b=at1 at *
      have G7:D ((Yq n B).length<=1000000/\(Qs (Yq n B)).length<=10000000):=qh (by rw[Ym,Q3a];exact⟨A5.o.1,(Y5 A0.o).2.2.2.2.1⟩);go_upto_region 17 with((go_at_call 156;(with_reducible refine(Qc9 _ X 0 (Yq n B) G5.o G7.o.1 G7.o.2).mono ?_);rintro e wP ⟨vP,rfl,CB,G8⟩;rw[Q3a]at CB;obtain⟨pP,cP,rfl,-,-⟩:=CB.form;have G9:=qh CB;have DL:=qh G8;clear CB G8))
      have GB:=qh (BJ.o.below DL.o);have GC:=qh (G3.o.frame (X:=λ_=>False) (Ay DL.o) id);obtain⟨FP,AH,A8,AA⟩:=G9.o.ow rfl;have IZ:=BJ.o.fr.size;have DM:D (Qg3 Q4 FP wc u wP (A pP (Qs n).length cP) (Qs n)):=qh (⟨AH,A8,λq G=>⟨Au IZ (AA q G).1,λhm=>by have h1:=(AA q G).1;have h2:=BJ.o.mem.lt _ (Aa _ hm);omega⟩⟩);have GD:D ((Qs n).length<=10000000):=qh ((Y5 A0.o).2.2.2.2.1);have GE:D (∀p∈Qs n,((0<=p.1/\p.1<n.length)/\0<=p.2/\p.2<(aW (Q7 n p.1)).length)):=qh (λp hp=>Ja.1 hp);clear AH A8 AA G9 BJ G3 DL G5;obtain⟨P,hP⟩:∃P:List Wd,Qs n=P:=⟨_,rfl⟩;rw[hP]at DM GD GE AZ⊢;clear hP;go_loopw [90] (λi wr=>∃(j:Nat),j<=P.length/\i=I Z j/\D (Qk wc S g 0 wr (((P.take j).filter (Q7b n)).foldl (Q78 n at1) m2) u l2)/\D (Yt n at1 (mC m).length (((P.take j).filter (Q7b n)).foldl (Q78 n at1) m2) l2)/\D (Q0j wr wc.heap.size at1)/\D (Qg3 Q4 FP wc u wr (A pP P.length cP) P)) (λi _=>P.length-(Bv i).toNat);case atStart=>exact⟨0,Ak _,rfl,GB.o,G4.o,GC.o,DM.o⟩
      case round=>
       clear GB GC DM G4;rename Bh=>wr3
       obtain⟨j3,KD,rfl,AG,AD,CC,DN⟩:=hrel;have J0:=AG.o.fr.size;by_cases BL:j3<P.length
       ·obtain⟨bP,oP,rfl,hE⟩:=Rd.elem DN.o.1.rd j3 BL
        have AQ:=qh (GE.o P[j3] (As BL));have A4:D (((P.take (j3+1)).filter (Q7b n)).foldl (Q78 n at1) m2=(if Q7b n P[j3]then Q78 n at1 (((P.take j3).filter (Q7b n)).foldl (Q78 n at1) m2) P[j3]else((P.take j3).filter (Q7b n)).foldl (Q78 n at1) m2)):=qh (by rw[An BL,List.filter_append,De];cases hh:Q7b n P[j3]<;>simp[hh]);generalize P[j3]=pt at *
        generalize ((P.take j3).filter (Q7b n)).foldl (Q78 n at1) m2=mj at *
        obtain⟨a,O⟩:=pt;obtain⟨e0,e1,F7,F8⟩:=At.word (t:=a) (a:=O) hE;simp only[Ty.sz,Bj]at e0 e1;have CY:(0:Int)<=j3:=by omega
        have CZ:(j3:Int)<P.length:=by omega
        have B5:=qh BL;have KE:P.length<=10000000:=GD.o;have GG:=qh AG.o.mem.lt;have KF:=Zb CC.o;clear hE;go_upto_region 19 with fail
        refine Qq ?_;intro H A1;have A2:D (Bi wr3.heap.size wr3 H):=qh (by rw[A1];go_grown);have AC:H.heap[wr3.heap.size]?=R (.cells #[I Z a,I Z O] 185 (0,0)):=by rw[A1];exact Bg wr3 _
        have C0:=qh AC;obtain⟨⟨k0,k1⟩,-⟩:=Za AC;have AK:=qh (AG.o.below A2.o);have J1:=qh (B7.o _ AK.o.fr);obtain⟨⟨q0,q1⟩,G⟩:∃q,Qt n (a,O)=q:=⟨_,rfl⟩;have HQ:=qh G;have AR:D (((0:Int)<=a/\a<(Yq n B).length)/\(0:Int)<=O/\O<((aW (Q7 (Yq n B) a)).length:Int)):=qh (by
         have e:aW (Q7 (Yq n B) a)=aW (Q7 n a):=by unfold Q7;rw[Q6r]
         rw[Ym,e];exact AQ.o)
        have CD:D ((0<=q0/\q0<n.length)/\Qqm q0/\Qqm q1):=qh (by obtain⟨p1,-,-⟩:=Q1i A0.o (p:=(a,O)) (Ja.2 AQ.o);rw[G]at p1;obtain⟨⟨BM,BN⟩,m3,m4⟩:=Ja.1 p1;simp only at BM BN m3 m4;have:=BB.o q0.toNat;have:=A5.o.1;unfold Q7 at m4;refine⟨⟨BM,BN⟩, ?_, ?_⟩<;>unfold Qqm<;>omega);clear A1 AC e0 e1 G;go_upto_region 20 with((go_at_call 158;(with_reducible refine(Qa0 H X 0 (Yq n B) J1.o a O AR.o.1.1 AR.o.1.2 AR.o.2.1 AR.o.2.2).mono ?_);rintro e w5 ⟨rfl,E⟩;rw[Q2y,HQ.o];have CO:=qh E;clear E))
        refine Qq ?_;intro W6 AI;have CE:D (Bi w5.heap.size w5 W6):=qh (by rw[AI];go_grown);have A7:W6.heap[w5.heap.size]?=R (.cells #[I Z q0,I Z q1] 185 (0,0)):=by rw[AI];exact Bg w5 _
        have KG:=qh A7;obtain⟨⟨g0,B8⟩,-⟩:=Za A7;have DO:=qh (Q0 CO.o CE.o);have k0:=(Am DO.o).cell _ _ k0;have k1:=(Am DO.o).cell _ _ k1;have AB:=qh (Q0 A2.o DO.o);have AE:=qh (AG.o.below AB.o);have AS:=qh (CC.o.frame (X:=λ_=>False) (Ay AB.o) id);have DP:=qh (DN.o.step (X:=λ_=>False) (Ay AB.o) (λ_ h=>h.elim) (λb h=> .inl h));clear AI A7;by_cases DQ:0<O
        ·by_cases AT:q1=0
         ·subst AT
          have AJ:D (Q7b n (a,O)=true):=qh (by unfold Q7b;rw[HQ.o];simp[DQ]);have GH:D (Q78 n at1 mj (a,O)=Qh mj (at1.getD a.toNat 0) (O-1) (1,at1.getD q0.toNat 0)):=qh (by unfold Q78 Qak;rw[HQ.o]);have J2:=qh (Q6g A0.o (p:=(a,O)) (Ja.2 AQ.o) DQ);have CF:D (Qqm (at1.getD q0.toNat 0)):=qh (by
           by_cases e:q0.toNat=0
           ·rw[e,G6.o];unfold Qqm;omega
           ·have h:=AD.o.2.2 q0.toNat (by omega) (by have:=CD.o.1;omega)
            unfold Qqm;omega)
          obtain⟨⟨BD,AM⟩,AN⟩:=J2.o;simp only at BD AM AN;obtain⟨BE,BF,BG,BH⟩:=AD.o.2.2 a.toNat (by omega) (by omega);have BI:D ((O-1<((aW (Q7 (mC mj) (at1.getD a.toNat 0))).length:Int))/\at1.getD a.toNat 0<((mC mj).length:Int)):=qh (⟨by rw[BH];have h:O<(aW (Qn n a.toNat)).length:=AQ.o.2.2;omega,by rw[AD.o.1];exact BF⟩);have DA:D (∀V,Bi W6.heap.size W6 V->V.cell? ⟨wc.heap.size,0+a.toNat,N⟩=R (I Z (at1.getD a.toNat 0))):=qh (λV E=>by rw[Cd];exact((AS.o.frame (X:=λ_=>False) (Ay E) id)).cell (by rw[BK.o];omega));have DB:D ((0:Int)<O/\O<=1000):=qh (⟨AN,by have h:=BB.o a.toNat;have h2:O<(aW (Qn n a.toNat)).length:=AQ.o.2.2;omega⟩);have DC:D ((0:Int)<=a/\a<(n.length:Int)):=qh (⟨by omega,AM⟩);have AO:=qh (And.intro BE BG);obtain⟨J3,J4⟩:=CD.o.1;have c6:=AS.o.cell (i:=q0.toNat) (by rw[BK.o];omega);have K:D (wr3.heap.size∉u.all/\w5.heap.size∉u.all):=qh (⟨λh=>by have:=GG.o _ (Aa _ h);omega,λh=>by have:=GG.o _ (Aa _ h);have:=CO.o.size;have:=A2.o.size;omega⟩);have B4:D (∀V,Q1 (λc=>c∈u.all) W6 V->(V.cell? ⟨wr3.heap.size,0,N⟩=R (I Z a)/\V.cell? ⟨wr3.heap.size,1,N⟩=R (I Z O))/\V.cell? ⟨w5.heap.size,0,N⟩=R (I Z q0)/\V.cell? ⟨wc.heap.size,q0.toNat,N⟩=R (I Z (at1.getD q0.toNat 0))):=qh (λV C=>⟨⟨Qf C k0 K.o.1,Qf C k1 K.o.1⟩,Qf C g0 K.o.2,Qf C c6 B3.o⟩);have DD:D (Bi W6.heap.size W6 W6.drew):=qh ((Ai _ _).drew);have C6:D (Q1 (λc=>c∈u.all) W6 W6.drew):=qh ((Q1.refl _ _).drew);have GI:=qh AE.o.drew;have J5:=qh (AD.o.set (c:=at1.getD a.toNat 0) (k:=O-1) (x:=(1,at1.getD q0.toNat 0)) AO.o.2);generalize at1.getD q0.toNat 0=tv at *
          clear BD AM AN BE BF BG BH;go_upto_region 21 with fail
          clear k0 k1 g0 B8 c6
          go_region_held3(λV=>(V.cell? ⟨wr3.heap.size,0,N⟩=R (I Z a)/\V.cell? ⟨wr3.heap.size,1,N⟩=R (I Z O))/\V.cell? ⟨w5.heap.size,0,N⟩=R (I Z q0)/\V.cell? ⟨wc.heap.size,q0.toNat,N⟩=R (I Z tv))
           (first|with_reducible exact B4.o _ AF.o|with_reducible exact B4.o _ GJ.o|with_reducible exact B4.o _ C6.o|fail)
           (first
            |((go_at_call 246;(with_reducible refine(Q01 _ tv).mono ?_);rintro e' w7 ⟨rfl,E⟩;have B6:=qh (Q0 DD.o E);have GJ:D (Q1 (λc=>c∈u.all) W6 w7):=qh (Ay B6.o);have D9:=qh (AE.o.below B6.o);clear E))
            |((go_at_call 245;(with_reducible refine(Q7r D9.o wc.heap.size 0 n.length n.length a O 1 tv (at1.getD a.toNat 0) DC.o DB.o (DA.o _ B6.o) ⟨B3.o,by have:=A3.o.1;omega⟩ AO.o.1 BI.o.2 AO.o.2 BI.o.1 (by unfold Qqm;omega) CF.o).mono ?_);rintro e' w8 ⟨rfl,y,C⟩;have AP:=qh y;have AF:=qh (GJ.o.trans C);clear y C))
            |fail)
          have C7:=qh (AS.o.frame AF.o B3.o);have DE:=qh (DP.o.step AF.o (λc z=> .inr z) (λb E=> .inl E));go_wp2_with fail
          go_roundw;case rel=>exact⟨j3+1,by have:=B5.o;omega,by go_num,(show Qk _ _ _ _ _ _ _ _ by rw[A4.o,AJ.o,if_pos rfl,GH.o];exact AP.o),(show Yt _ _ _ _ _ by rw[A4.o,AJ.o,if_pos rfl,GH.o];exact J5.o),C7.o,DE.o⟩
          case measure=>simp[Bv];have:=B5.o;omega
         ·have AJ:D (Q7b n (a,O)=false):=qh (by unfold Q7b;rw[HQ.o];simp[AT])
          have GK:(q1==0)=false:=by simpa using AT
          clear AT;go_wp2_with fail
          go_roundw;case rel=>exact⟨j3+1,by have:=B5.o;omega,by go_num,(show Qk _ _ _ _ _ _ _ _ by rw[A4.o,AJ.o];exact AE.o),(show Yt _ _ _ _ _ by rw[A4.o,AJ.o];exact AD.o),AS.o,DP.o⟩
          case measure=>simp[Bv];have:=B5.o;omega
        ·have AJ:D (Q7b n (a,O)=false):=qh (by unfold Q7b;simp[DQ])
         go_wp2_with fail
         go_roundw;case rel=>exact⟨j3+1,by have:=B5.o;omega,by go_num,(show Qk _ _ _ _ _ _ _ _ by rw[A4.o,AJ.o];exact AE.o),(show Yt _ _ _ _ _ by rw[A4.o,AJ.o];exact AD.o),AS.o,DP.o⟩
         case measure=>simp[Bv];have:=B5.o;omega
       ·have J6:j3=P.length:=by omega
        have GL:D (P.take j3=P):=qh (Ao (by omega));rw[GL.o]at AG AD;have J7:¬((j3:Int)<P.length):=by omega
        have J8:D (mX ((P.filter (Q7b n)).foldl (Q78 n at1) m2)=mX m):=qh (by rw[Qgm (f:=Q78 n at1) (λ_ _=>rfl),IX.o,IA.o]);have J9:D (Yf ((P.filter (Q7b n)).foldl (Q78 n at1) m2) l2):=qh (AD.o.2.1);have DR:D (∀i,0<=i->i<n.length->Qqm (at1.getD i 0)):=qh (λi h0 h1=>by
         by_cases e:i=0
         ·rw[e,G6.o];unfold Qqm;omega
         ·have h:=AD.o.2.2 i (by omega) h1
          unfold Qqm;omega)
        generalize (P.filter (Q7b n)).foldl (Q78 n at1) m2=m3 at *
        have GM:=qh (B7.o _ AG.o.fr);clear J6 AD;go_upto_region 23 with fail
        go_upto_region 24 with((go_at_call 247;(with_reducible refine(Qmi _ X 0 (Yq n B) GM.o (Qh5 A0.o E0.1 AW.o)).mono ?_);rintro e wQ ⟨vQ,rfl,CG,GN⟩;rw[Qd1]at CG;obtain⟨pQ,cQ,rfl,-,-⟩:=CG.form;have GO:=qh CG;have DS:=qh GN;clear CG GN))
        have GP:=qh (AG.o.below DS.o);have GQ:=qh (CC.o.frame (X:=λ_=>False) (Ay DS.o) id);obtain⟨FQ,AH,A8,AA⟩:=GO.o.ow rfl;have DT:D (Qg3 Q4 FQ wc u wQ (A pQ (Yd n).length cQ) (Yd n)):=qh (⟨AH,A8,λq G=>⟨Au J0 (AA q G).1,λhm=>by have h1:=(AA q G).1;have h2:=AG.o.mem.lt _ (Aa _ hm);omega⟩⟩);have GR:D (∀p∈Yd n,(0<=p.1/\p.1<n.length)/\(0<=p.2/\p.2<n.length)):=qh (λp hp=>Q9d A0.o hp);have GS:(Yd n).length<=600:=by have:=Q14 n n.length;rw[<-Q1r]at this;have:(Yd n).length<=n.length:=this;have h9:n.length<=600:=(Y5 A0.o).1.1;omega
        have CH:=qh GS;obtain⟨Q,GT⟩:∃Q:List Wd,Yd n=Q:=⟨_,rfl⟩;rw[GT]at DT GR CH AZ⊢;clear AH A8 AA GO AG CC DN DS GT GS GL J7 BL;have DU:D (∀(L:List Wd),(mX (L.foldl (λmm p=>Yu mm (at1.getD p.1.toNat 0) (at1.getD p.2.toNat 0)) m3)).length=(mX m).length+L.length/\Yf (L.foldl (λmm p=>Yu mm (at1.getD p.1.toNat 0) (at1.getD p.2.toNat 0)) m3) l2):=qh (λL=>⟨by rw[Qdb (λs p=>Q54 _ _ _),J8.o],by
         have h:∀(L:List Wd) (m:Qqp),Yf m l2->Yf (L.foldl (λmm p=>Yu mm (at1.getD p.1.toNat 0) (at1.getD p.2.toNat 0)) m) l2:=by
          intro L;induction L with
          |nil=>exact λm h=>h
          |cons p L ih=>exact λm h=>ih _ h
         exact h L m3 J9.o⟩)
        obtain⟨GF,DV⟩:∃GF:Qqp->Wd->Qqp,GF=λmm p=>Yu mm (at1.getD p.1.toNat 0) (at1.getD p.2.toNat 0):=⟨_,rfl⟩;have JA:=qh DV;rw[<-DV]at AZ DU;clear DV;go_loopw [119] (λi wr=>∃(j:Nat) (S3:MS),j<=Q.length/\i=I Z j/\D (Qk wc S g 0 wr ((Q.take j).foldl GF m3) S3 l2)/\D (Q0j wr wc.heap.size at1)/\D (wc.heap.size∉S3.all)/\D (Qg3 Q4 FQ wc S3 wr (A pQ Q.length cQ) Q)) (λi _=>Q.length-(Bv i).toNat);case atStart=>exact⟨0,u,Ak _,rfl,GP.o,GQ.o,B3.o,DT.o⟩
        case round=>
         clear GP GQ DT GM;rename Bh=>wr4
         obtain⟨j4,S4,KH,rfl,AU,DW,DX,GU⟩:=hrel;have KI:=AU.o.fr.size;by_cases CI:j4<Q.length
         ·obtain⟨bQ,oQ,rfl,hE⟩:=Rd.elem GU.o.1.rd j4 CI
          have AQ:=qh (GR.o Q[j4] (As CI));have A4:D ((Q.take (j4+1)).foldl GF m3=Yu ((Q.take j4).foldl GF m3) (at1.getD Q[j4].1.toNat 0) (at1.getD Q[j4].2.toNat 0)):=qh (by rw[An CI,De];show GF _ _=_;rw[JA.o]);have DY:D ((mX ((Q.take j4).foldl GF m3)).length<=1000000):=qh (by rw[(DU.o (Q.take j4)).1];have:=CH.o;have:(Q.take j4).length<=Q.length:=List.length_take_le' j4 Q;omega);generalize Q[j4]=pt at *
          generalize (Q.take j4).foldl GF m3=mj at *
          obtain⟨x1,x2⟩:=pt;obtain⟨e0,e1,F7,F8⟩:=At.word (t:=x1) (a:=x2) hE;simp only[Ty.sz,Bj]at e0 e1;have CY:(0:Int)<=j4:=by omega
          have CZ:(j4:Int)<Q.length:=by omega
          have GV:=qh CI;have KJ:Q.length<=600:=CH.o;have JB:=qh AU.o.mem.lt;have KK:=Zb DW.o;clear hE;go_upto_region 26 with fail
          refine Qq ?_;intro H A1;have A2:D (Bi wr4.heap.size wr4 H):=qh (by rw[A1];go_grown);have AC:H.heap[wr4.heap.size]?=R (.cells #[I Z x1,I Z x2] 117 (0,0)):=by rw[A1];exact Bg wr4 _
          have C0:=qh AC;obtain⟨⟨k0,k1⟩,-⟩:=Za AC;have AK:=qh (AU.o.below A2.o);have AL:=qh (DW.o.frame (X:=λ_=>False) (Ay A2.o) id);have D5:=qh (GU.o.step (X:=λ_=>False) (Ay A2.o) (λ_ h=>h.elim) (λb h=> .inl h));obtain⟨⟨KL,KM⟩,⟨KN,KO⟩⟩:(0<=x1/\x1<n.length)/\(0<=x2/\x2<n.length):=AQ.o;have c1:=AL.o.cell (i:=x1.toNat) (by rw[BK.o];omega);have c2:=AL.o.cell (i:=x2.toNat) (by rw[BK.o];omega);have CA:=qh (And.intro (DR.o x1.toNat (by omega) (by omega)) (DR.o x2.toNat (by omega) (by omega)));have A4:D ((Q.take (j4+1)).foldl GF m3=Yu mj (at1.getD x1.toNat 0) (at1.getD x2.toNat 0)):=qh (A4.o);generalize at1.getD x1.toNat 0=t1 at *
          generalize at1.getD x2.toNat 0=t2 at *
          have JC:=qh AK.o.drew;have K:D (¬(wr4.heap.size=g\/wr4.heap.size∈S4.all)/\¬(wc.heap.size=g\/wc.heap.size∈S4.all)):=qh (⟨λh=>h.elim (λh=>by have:=A3.o.1;omega) (λh=>by have:=JB.o _ (Aa _ h);omega),λh=>h.elim (λh=>by have:=A3.o.1;omega) DX.o⟩);have BO:D (Q1 (λc=>c=g\/c∈S4.all) H H.drew):=qh ((Q1.refl _ _).drew);clear A1 AC e0 e1;have BP:D (∀V,Q1 (λc=>c=g\/c∈S4.all) H V->(V.cell? ⟨wr4.heap.size,0,N⟩=R (I Z x1)/\V.cell? ⟨wr4.heap.size,1,N⟩=R (I Z x2))/\V.cell? ⟨wc.heap.size,x1.toNat,N⟩=R (I Z t1)/\V.cell? ⟨wc.heap.size,x2.toNat,N⟩=R (I Z t2)):=qh (λV C=>⟨⟨Qf C k0 K.o.1,Qf C k1 K.o.1⟩,Qf C c1 K.o.2,Qf C c2 K.o.2⟩)
          go_region_held3(λV=>(V.cell? ⟨wr4.heap.size,0,N⟩=R (I Z x1)/\V.cell? ⟨wr4.heap.size,1,N⟩=R (I Z x2))/\V.cell? ⟨wc.heap.size,x1.toNat,N⟩=R (I Z t1)/\V.cell? ⟨wc.heap.size,x2.toNat,N⟩=R (I Z t2))
           (first|with_reducible exact BP.o _ BQ.o|with_reducible exact BP.o _ BO.o|fail)
           (first
            |((go_at_call 248;(with_reducible refine(Qcf JC.o t1 t2 CA.o.1 CA.o.2 DY.o).mono ?_);rintro e' w8 ⟨rfl,S5,y,C,BR⟩;have AP:=qh y;have GW:=qh C;have BQ:=qh (BO.o.trans (BR.mono λc z=>z.imp id λe=>Aa _ (Af _ e)));clear y C BR))
            |fail)
          go_wp2_with fail
          go_roundw;case rel=>
           refine⟨j4+1,S5,by have:=GV.o;omega,by go_num,(show Qk _ _ _ _ _ _ _ _ by rw[A4.o];exact AP.o),AL.o.frame BQ.o K.o.2, ?_, ?_⟩
           ·show _∉_
            exact λhm=>(GW.o.2.2.2 _ hm).elim DX.o λe=>by have:H.heap.size<=wc.heap.size:=e;have:=A2.o.size;omega
           ·show Qg3 _ _ _ _ _ _ _
            exact D5.o.step BQ.o (λc z=>z.imp (λe=>by rw[e];exact A3.o.1) id) GW.o.2.2.2
          case measure=>simp[Bv];have:=GV.o;omega
         ·have JD:D (Q.take j4=Q):=qh (Ao (by omega))
          rw[JD.o]at AU;have KP:¬((j4:Int)<Q.length):=by omega
          have DY:D ((mX (Q.foldl GF m3)).length<=1000000):=qh (by rw[(DU.o Q).1];have:=CH.o;omega);generalize Q.foldl GF m3=m4 at *
          obtain⟨⟨q0,q1⟩,G⟩:∃q,Qt n (0,0)=q:=⟨_,rfl⟩;have HQ:=qh G;have AR:D (((0:Int)<(Yq n B).length)/\(0:Int)<((aW (Q7 (Yq n B) 0)).length:Int)):=qh (by
           have e:aW (Q7 (Yq n B) 0)=aW (Q7 n 0):=by unfold Q7;rw[Q6r]
           rw[Ym,e];have:=(Q6h A0.o).2;exact⟨by omega,by show(0:Int)<((aW (Qn n 0)).length:Int);omega⟩)
          have CD:D ((0<=q0/\q0<n.length)/\Qqm q0/\Qqm q1):=qh (by have JE:((0:Int),(0:Int))∈Qs n:=Ja.2 ⟨⟨by simp,by simp;omega⟩,by simp,by have:=(Q6h A0.o).2;show(0:Int)<((aW (Qn n 0)).length:Int);omega⟩;obtain⟨p1,-,-⟩:=Q1i A0.o JE;rw[G]at p1;obtain⟨⟨BM,BN⟩,m3,m4⟩:=Ja.1 p1;simp only at BM BN m3 m4;have:=BB.o q0.toNat;have:=A5.o.1;unfold Q7 at m4;refine⟨⟨BM,BN⟩, ?_, ?_⟩<;>unfold Qqm<;>omega);have GX:D (Q3z n B m b=(if(q1==0)=true then Yu m4 b (at1.getD q0.toNat 0)else m4)):=qh (by rw[AZ.o,HQ.o]);clear G AZ;go_upto_region 28 with fail
          have JF:D (∀V,Bi wr4.heap.size wr4 V->At Je V X 0 (Yq n B)):=qh (λV E=>B7.o _ (AU.o.below E).fr)
          go_upto_region 29 with(first
           |((go_at_call 249;(with_reducible refine(Qfz wr4).mono ?_);rintro e w6 ⟨rfl,E⟩;have CE:=qh E;clear E))
           |((go_at_call 158;(with_reducible refine(Qa0 w6 X 0 (Yq n B) (JF.o w6 CE.o) 0 0 (Int.le_refl 0) AR.o.1 (Int.le_refl 0) AR.o.2).mono ?_);rintro e w7 ⟨rfl,E⟩;rw[Q2y,HQ.o];have B6:=qh (Q0 CE.o E);clear E))|fail)
          refine Qq ?_;intro W6 AI;have JG:D (Bi w7.heap.size w7 W6):=qh (by rw[AI];go_grown);have A7:W6.heap[w7.heap.size]?=R (.cells #[I Z q0,I Z q1] 185 (0,0)):=by rw[AI];exact Bg w7 _
          obtain⟨⟨g0,B8⟩,-⟩:=Za A7;have AB:=qh (Q0 B6.o JG.o);have AE:=qh (AU.o.below AB.o);have AS:=qh (DW.o.frame (X:=λ_=>False) (Ay AB.o) id);have GY:D (∀(V:Bh) (m':Qqp) (S':MS) (l':List Nat),Qk wc S g 0 V m' S' l'->Qk w S g 0 V m' S' l'):=qh (λ_ _ _ _ h=>Qk.thruI (BT.o.below CT.o) h);by_cases AT:q1=0
          ·subst AT
           obtain⟨J3,J4⟩:=CD.o.1;have c6:=AS.o.cell (i:=q0.toNat) (by rw[BK.o];omega);have CF:D (Qqm b/\Qqm (at1.getD q0.toNat 0)):=qh (⟨by unfold Qqm;omega,DR.o _ (by omega) (by omega)⟩);generalize at1.getD q0.toNat 0=tv at *
           have GI:=qh AE.o.drew;have GZ:=AU.o.mem.lt;have KQ:=B6.o.size;have KR:=Zb A7;have K:D (¬(w7.heap.size=g\/w7.heap.size∈S4.all)/\¬(wc.heap.size=g\/wc.heap.size∈S4.all)):=qh (⟨λh=>h.elim (λh=>by have:=A3.o.1;omega) (λh=>by have:=GZ _ (Aa _ h);omega),λh=>h.elim (λh=>by have:=A3.o.1;omega) DX.o⟩);have BO:D (Q1 (λc=>c=g\/c∈S4.all) W6 W6.drew):=qh ((Q1.refl _ _).drew);have BP:D (∀V,Q1 (λc=>c=g\/c∈S4.all) W6 V->V.cell? ⟨w7.heap.size,0,N⟩=R (I Z q0)/\V.cell? ⟨wc.heap.size,q0.toNat,N⟩=R (I Z tv)):=qh (λV C=>⟨Qf C g0 K.o.1,Qf C c6 K.o.2⟩);clear AI A7 GZ;go_upto_region 30 with fail
           go_region_held3(λV=>V.cell? ⟨w7.heap.size,0,N⟩=R (I Z q0)/\V.cell? ⟨wc.heap.size,q0.toNat,N⟩=R (I Z tv)) (first|with_reducible exact BP.o _ BQ.o|with_reducible exact BP.o _ BO.o|fail)
            (first
             |((go_at_call 248;(with_reducible refine(Qcf GI.o b tv CF.o.1 CF.o.2 DY.o).mono ?_);rintro e' w8 ⟨rfl,S5,y,C,BR⟩;have AP:=qh y;have BQ:=qh (BO.o.trans (BR.mono λc z=>z.imp id λe=>Aa _ (Af _ e)));clear y C BR))
             |fail)
           go_wp2_with fail
           go_end0
           exact⟨rfl,S5,l2,by rw[GX.o];exact GY.o _ _ _ _ AP.o⟩
          ·have GK:(q1==0)=false:=by simpa using AT
           go_wp2_with fail
           go_end0
           exact⟨rfl,S4,l2,by rw[GX.o,GK,if_neg (by decide),<-AI];exact GY.o _ _ _ _ AE.o⟩
end Go.Proofs.YthbpkpnioaniiaaGreat
