import Derived.Test.YthbpkpnioaniiaaGreatP18
set_option maxHeartbeats 40000000
set_option maxRecDepth 100000
set_option linter.all false
namespace Go.Proofs.YthbpkpnioaniiaaGreat
open Go.RowKit Go.Proofs.Tryz
open Go.Value renaming int->I,slice->A
open Go.IntKind renaming i64->Z
open Option renaming none->N,some->R
open Bool renaming true->Bn,false->Bm,or_eq_true->Gb,false_eq_true->Cv
open Go renaming maxLen->Bp,heap_alloc_new->Bg,wpQuiet_nil->Ds,bodyPost_ret->Ca
open Go.IntKind renaming wrap_i64->Cx
open Go.RowKit renaming Below->Bi
open List renaming setIfInBounds_toArray->Ci,set_cons_zero->Cs,set_cons_succ->Cw
open Nat renaming reduceAdd->Bj,mul_one->Cb
def Q4a(x y:Qb):Qb:=if(Vr x y).2 then y else x
def Q1e(bk:List Qr2)(x y:Qb):Int×Int:=
 if(Vr x y).1=8 then(0,11)
 else if(Vr x y).1=7 then(if(bk.length:Int)<=aV (Q4a x y)then(0,3)else if Vn (Y4 bk (aV (Q4a x y))) (aL (Q4a x y))then(7,0)else(0,9))
 else((Vr x y).1,0)
theorem Q4u{bk:List Qr2}{v:Int}(h:0<=v)(C:v<bk.length):∃B:v.toNat<bk.length,bk[v.toNat]=Y4 bk v:=by
 have B:v.toNat<bk.length:=by omega
 refine⟨B, ?_⟩;unfold Y4;rw[Ab,Ad B];rfl
theorem Q4f{bk:List Qr2}{v:Int}(h:0<=v)(B:v<bk.length):Y4 bk v∈bk:=by
 obtain⟨C,e⟩:=Q4u h B;rw[<-e];exact As C
theorem Qfk{n:Qr2}(h:Ys n=Bn):n.length<=1000000/\(∀x∈n,(aD x).length<=100000000/\(aW x).length<=100000000)/\∀x∈n,Y1 (aK x)=Bn-> -1000<=aL x/\aL x<=1000:=by
 obtain⟨⟨H,-⟩,E,F,-⟩:=Y5 h;refine⟨by omega,λx C=> ?_,λx C G=> ?_⟩
 ·obtain⟨i,B,rfl⟩:=Av.1 C
  have:=F i;rw[Qx B]at this;omega
 ·obtain⟨i,B,rfl⟩:=Av.1 C
  have:=E i B;rw[Qx B]at this;have:=Q8z this G;omega
theorem Qmq(w:World)(g:Nat)(x y:Qb)(h:At Je w g 0 [x,y])(p0:Option Addr)(c0:Nat)(bk:List Qr2)(S:w.cell? ⟨g,1,N⟩=R (A p0 bk.length c0))(AX:Rd (.slice Je) w [A p0 bk.length c0] bk)(B2:bk.length<=Bp)(AY:∀n∈bk,Ys n=Bn)
  (h7:(Vr x y).1=7->0<=aV (Q4a x y)/\0<=aL (Q4a x y)/\aL (Q4a x y)<=1000):
  Calls prog 238 #[.pointer (R ⟨g,0,N⟩),.agg #[I Z 0,I Z 1]] w λe w'=>∃i j:Int,e=.returned (.tuple #[I Z (Q1e bk x y).1,I Z i,I Z j,I Z (Q1e bk x y).2])/\Bi w.heap.size w w':=by
 have HA:=qh h;have AZ:=qh AX;have B0:=qh AY;obtain⟨pn,cn,T,-,-,hn⟩:=h.net;have T:w.cell? ⟨g,0,N⟩=R (A pn 2 cn):=T;obtain⟨b1,o1,rfl,hX⟩:=Rd.elem hn 0 (by simp);obtain⟨b2,o2,B1,hY⟩:=Rd.elem hn 1 (by simp);simp only[Option.some.injEq,Addr.mk.injEq,and_true]at B1;obtain⟨rfl,rfl⟩:=B1;simp only[List.getElem_cons_zero,List.getElem_cons_succ,Ty.sz,Bj,Nat.reduceMul,Nat.zero_mul,Nat.one_mul,Nat.add_zero]at hX hY;obtain⟨r,hr⟩:∃r,Vr x y=r:=⟨_,rfl⟩;have HR:=qh hr
 have HV:=qh (show Q1e bk x y=if r.1=8 then(0,11)
  else if r.1=7 then(if(bk.length:Int)<=aV (if r.2 then y else x)then(0,3)else if Vn (Y4 bk (aV (if r.2 then y else x))) (aL (if r.2 then y else x))then(7,0)else(0,9))
  else(r.1,0)by unfold Q1e Q4a;rw[hr])
 have H7:D (r.1=7->0<=aV (if r.2 then y else x)/\0<=aL (if r.2 then y else x)/\aL (if r.2 then y else x)<=1000):=qh (by unfold Q4a at h7;rw[hr]at h7;exact h7);obtain⟨c,s⟩:=r;obtain⟨k,l,v,d,ws⟩:=x;obtain⟨M,G,E,O,P⟩:=y;obtain⟨pd,cd,pw,cw,⟨m,o,p,q,t⟩,-,-,-⟩:=hX.agent;obtain⟨qd,dd,qw,dw,⟨u,z,e2,e3,e4⟩,-,-,-⟩:=hY.agent;have B3:=Ac w _ T;simp only at B3;clear hr h7 hX hY hn h AX AY;have HP:D (((0:Int)<=0/\(0:Int)<([(k,l,v,d,ws),(M,G,E,O,P)]:List Qb).length)/\(0:Int)<=1/\(1:Int)<([(k,l,v,d,ws),(M,G,E,O,P)]:List Qb).length):=qh (by simp);have B4:D (Vr (Q7 [(k,l,v,d,ws),(M,G,E,O,P)] 0) (Q7 [(k,l,v,d,ws),(M,G,E,O,P)] 1)=(c,s)):=qh (HR.o);unfold Bp at B2;go_enter func238,ntmps238;go_upto_region 1 with fail
 refine Qq ?_;intro W hW;have AO:D (Bi w.heap.size w W):=qh (by rw[hW];go_grown);have AP:W.heap[w.heap.size]?=R (.cells #[I Z 0,I Z 1] 117 (0,0)):=by rw[hW];exact Bg w _
 have BA:=qh AP;obtain⟨⟨A9,AA⟩,-⟩:=Za AP;have B5:D (At Je W g 0 [(k,l,v,d,ws),(M,G,E,O,P)]):=qh (HA.o.kept (Am AO.o));have B:=Am AO.o;replace T:=B.cell _ _ T;replace S:=B.cell _ _ S;replace m:=B.cell _ _ m;replace o:=B.cell _ _ o;replace p:=B.cell _ _ p;replace q:=B.cell _ _ q;replace t:=B.cell _ _ t;replace u:=B.cell _ _ u;replace z:=B.cell _ _ z;replace e2:=B.cell _ _ e2;replace e3:=B.cell _ _ e3;replace e4:=B.cell _ _ e4;clear hW AP B;(refine Z0 (λw'=>Bi W.heap.size W w') (by kernel_rfl) (by kernel_rfl) (Ai _ _).drew ?_;(repeat(first|go_big_quiet_skip|(go_big_quiet_want;apply Exists.intro;refine⟨λw' hC=> ?_, ?_⟩;(focus(have BB:=(Am hC).cell _ _ A9;have BC:=(Am hC).cell _ _ AA;have BD:=(Am hC).cell _ _ T;go_simp;first|done|with_reducible rfl|(((go_at_call 240;(with_reducible refine(Qem _ g 0 _ (B5.o.kept (Am hC)) 0 1 HP.o).mono ?_);exact λe w3 ⟨he,H⟩=>⟨he.trans (by rw[B4.o]),Q0 hC H⟩)))));simp only[Act.put,Ci,Cs,Cw];go_big_quiet_on)));refine Ds ?_;intro wz hz)
 have A8:=qh (Q0 AO.o hz);have B:=Am hz;replace A9:=B.cell _ _ A9;replace AA:=B.cell _ _ AA;replace T:=B.cell _ _ T;replace S:=B.cell _ _ S;replace m:=B.cell _ _ m;replace o:=B.cell _ _ o;replace p:=B.cell _ _ p;replace q:=B.cell _ _ q;replace t:=B.cell _ _ t;replace u:=B.cell _ _ u;replace z:=B.cell _ _ z;replace e2:=B.cell _ _ e2;replace e3:=B.cell _ _ e3;replace e4:=B.cell _ _ e4;clear hz B;go_wp2_with fail
 by_cases q8:c=8
 ·subst q8
  have X:D (Q1e bk (k,l,v,d,ws) (M,G,E,O,P)=(0,11)):=qh (by rw[HV.o];rfl);cases s
  all_goals
   go_quiet(fail)
   go_wp2;refine Ca (by simp[results,results238,go_sem];first|rfl|done) rfl ?_;first|exact⟨⟨0,0,by rw[X.o]⟩,by first|exact Q6 A8.o _|go_grown⟩|exact⟨_,_,by rw[X.o],by first|exact Q6 A8.o _|go_grown⟩
 by_cases q7:c=7;case neg=>
  have X:D (Q1e bk (k,l,v,d,ws) (M,G,E,O,P)=(c,0)):=qh (by rw[HV.o,if_neg q8,if_neg q7]);cases s
  all_goals
   go_quiet(fail)
   go_wp2;refine Ca (by simp[results,results238,go_sem];first|rfl|done) rfl ?_;first|exact⟨⟨_,_,by rw[X.o]⟩,by first|exact Q6 A8.o _|go_grown⟩|exact⟨_,_,by rw[X.o],by first|exact Q6 A8.o _|go_grown⟩
 case pos=>
  subst q7;cases s;case false=>
   have X:D (Q1e bk (k,l,v,d,ws) (M,G,E,O,P)=(if(bk.length:Int)<=v then(0,3)else if Vn (Y4 bk v) l then(7,0)else(0,9))):=qh (HV.o);obtain⟨AB,B6,B7⟩:0<=v/\0<=l/\l<=1000:=H7.o rfl;go_quiet(fail)
   refine Qq ?_;intro K AC;have AD:D (Bi wz.heap.size wz K):=qh (by rw[AC];exact Q6 (Ai _ _) _);have B:=Am AD.o;replace T:=B.cell _ _ T;replace S:=B.cell _ _ S;replace m:=B.cell _ _ m;replace o:=B.cell _ _ o;replace p:=B.cell _ _ p;replace q:=B.cell _ _ q;replace t:=B.cell _ _ t;replace u:=B.cell _ _ u;replace z:=B.cell _ _ z;replace e2:=B.cell _ _ e2;replace e3:=B.cell _ _ e3;replace e4:=B.cell _ _ e4;clear AC B;go_upto_region 10 with fail
   refine Qq ?_;intro U A0;have AQ:=qh (Q0 AD.o (show Bi K.heap.size K U by rw[A0];go_grown));have AE:U.heap[K.heap.size]?=R (.cells #[I Z k,I Z l,I Z v,A pd d.length cd,A pw ws.length cw] 128 (0,0)):=by rw[A0];exact Bg _ _
   obtain⟨⟨-,t1,t2,-,-⟩,-⟩:=Y0 AE;have S:=(Am (show Bi K.heap.size K U by rw[A0];go_grown)).cell _ _ S;have A1:=qh (Q0 A8.o AQ.o);clear A0 AE T m o p q t u z e2 e3 e4 A9 AA;by_cases hv:(bk.length:Int)<=v
   ·have Y:D (Q1e bk (k,l,v,d,ws) (M,G,E,O,P)=(0,3)):=qh (by rw[X.o,if_pos hv])
    have A3:¬v<(bk.length:Int):=by omega
    go_quiet(fail)
    go_wp2;refine Ca (by simp[results,results238,go_sem];first|rfl|done) rfl ?_;first|exact⟨⟨0,0,by rw[Y.o]⟩,by first|exact Q6 A1.o _|go_grown⟩|exact⟨_,_,by rw[Y.o],by first|exact Q6 A1.o _|go_grown⟩
   ·have A3:v<(bk.length:Int):=by omega
    obtain⟨hh,AF⟩:=Q4u AB A3;have AR:=qh (B0.o _ (Q4f AB A3));obtain⟨bb,ob,rfl,hE⟩:=Rd.elem (AZ.o.kept (Am A1.o)) v.toNat hh;rw[AF]at hE;have Y:D (Q1e bk (k,l,v,d,ws) (M,G,E,O,P)=(if Vn (Y4 bk v) l then(7,0)else(0,9))):=qh (by rw[X.o,if_neg hv]);generalize Y4 bk v=L at *
    obtain⟨a,b,m0,-,-,hN⟩:=hE.net;simp only[Ty.sz,Cb]at m0;have HN:=qh hN;have AG:=Ac U _ m0;simp only at AG;clear hE hN AF hh;go_quiet(fail)
    refine Qq ?_;intro C AH;have AI:D (Bi U.heap.size U C):=qh (by rw[AH];exact Q6 (Ai _ _) _);have AS:=qh (Q0 A1.o AI.o);have B:=Am AI.o;have AT:D (∀F,Bi C.heap.size C F->F.cell? ⟨g,1,N⟩=R (A (R ⟨bb,ob,N⟩) bk.length c0)/\F.cell? ⟨K.heap.size,1,N⟩=R (I Z l)/\F.cell? ⟨K.heap.size,2,N⟩=R (I Z v)/\F.cell? ⟨bb,ob+v.toNat,N⟩=R (A a L.length b)):=qh (λF H=>Q6z H (B.cell _ _ S) (B.cell _ _ t1) (B.cell _ _ t2) (B.cell _ _ m0));have AJ:D (∀F,Bi C.heap.size C F->Rd Je F [A a L.length b] L):=qh (λF H=>HN.o.kept (B.trans (Am H)));have V:=qh (Qfk AR.o);have AK:D (-1000<=l/\l<=1000):=qh (by omega);have AL:Bi C.heap.size C C.drew:=(Ai _ _).drew;have A4:=qh AL;have A5:D (Bi C.heap.size C (C.alloc (.cells #[A N 0 0] 71)).drew):=qh (((Ai _ _).alloc (Aj _) _).drew);have AM:=qh (Aj C.heap.size);clear AH B S t1 t2 m0 AL AG;go_upto_region 12 with fail
    go_cut [11] (λx wx=>x=.bool (Vn L l)/\Bi C.heap.size C wx)
    case first=>
     go_region_held3(λF=>F.cell? ⟨g,1,N⟩=R (A (R ⟨bb,ob,N⟩) bk.length c0)/\F.cell? ⟨K.heap.size,1,N⟩=R (I Z l)/\F.cell? ⟨K.heap.size,2,N⟩=R (I Z v)/\F.cell? ⟨bb,ob+v.toNat,N⟩=R (A a L.length b))
      (((refine AT.o _ ?_);(first|with_reducible exact J.o|with_reducible exact J.o.alloc J.o.size _|(with_reducible exact(J.o.alloc J.o.size _).setCell J.o.size _)|(with_reducible exact J.o.setCell AM.o _)|with_reducible exact A4.o|with_reducible exact A5.o|go_grown)))
      (first
       |((go_at_call 241;(with_reducible refine(Q2p C.drew [A a L.length b] L l (AJ.o _ A4.o) V.o.1 V.o.2.1 V.o.2.2 AK.o).mono ?_);rintro e A6 ⟨AU,AV,AW,rfl,-,H⟩;have J:=qh (Q0 A4.o H);clear H))
       |((go_at_call 241;(with_reducible refine(Q2p ((C.alloc (.cells #[A N 0 0] 71)).drew) [A a L.length b] L l (AJ.o _ A5.o) V.o.1 V.o.2.1 V.o.2.2 AK.o).mono ?_);rintro e A6 ⟨AU,AV,AW,rfl,-,H⟩;have J:=qh (Q0 A5.o H);have A7:=Qe (w:=(C.alloc (.cells #[A N 0 0] 71)).drew) (Bg C (.cells #[A N 0 0] 71)) H;have B8:A6.cell? ⟨C.heap.size,0,N⟩=R (A N 0 0):=Q8 A7 rfl;have B9:A6.frozen? ⟨C.heap.size,0,N⟩=Bm:=Q0f.free ⟨_,A7⟩ 0;clear H A7))
       |fail)
     all_goals(go_wp2_with fail;go_meet)
     ·exact⟨rfl,J.o.alloc J.o.size _⟩
     ·exact⟨rfl,J.o.setCell AM.o _⟩
    case rest=>
     obtain⟨rfl,AN⟩:=hcut;have A2:=qh (Q0 AS.o AN);clear AN;cases ho:Vn L l
     ·have f:D (Q1e bk (k,l,v,d,ws) (M,G,E,O,P)=(0,9)):=qh (by rw[Y.o,ho];rfl)
      clear ho;go_wp2_with fail
      refine Ca (by simp[results,results238,go_sem];first|rfl|done) rfl ?_;first|exact⟨⟨_,_,by rw[f.o]⟩,A2.o⟩|exact⟨_,_,by rw[f.o],A2.o⟩
     ·have f:D (Q1e bk (k,l,v,d,ws) (M,G,E,O,P)=(7,0)):=qh (by rw[Y.o,ho];rfl)
      clear ho;go_wp2_with fail
      refine Ca (by simp[results,results238,go_sem];first|rfl|done) rfl ?_;first|exact⟨⟨_,_,by rw[f.o]⟩,A2.o⟩|exact⟨_,_,by rw[f.o],A2.o⟩
  case true=>
   have X:D (Q1e bk (k,l,v,d,ws) (M,G,E,O,P)=(if(bk.length:Int)<=E then(0,3)else if Vn (Y4 bk E) G then(7,0)else(0,9))):=qh (HV.o);obtain⟨AB,B6,B7⟩:0<=E/\0<=G/\G<=1000:=H7.o rfl;go_quiet(fail)
   refine Qq ?_;intro K AC;have AD:D (Bi wz.heap.size wz K):=qh (by rw[AC];exact Q6 (Ai _ _) _);have B:=Am AD.o;replace T:=B.cell _ _ T;replace S:=B.cell _ _ S;replace m:=B.cell _ _ m;replace o:=B.cell _ _ o;replace p:=B.cell _ _ p;replace q:=B.cell _ _ q;replace t:=B.cell _ _ t;replace u:=B.cell _ _ u;replace z:=B.cell _ _ z;replace e2:=B.cell _ _ e2;replace e3:=B.cell _ _ e3;replace e4:=B.cell _ _ e4;clear AC B;go_upto_region 10 with fail
   refine Qq ?_;intro U A0;have AQ:=qh (Q0 AD.o (show Bi K.heap.size K U by rw[A0];go_grown));have AE:U.heap[K.heap.size]?=R (.cells #[I Z M,I Z G,I Z E,A qd O.length dd,A qw P.length dw] 128 (0,0)):=by rw[A0];exact Bg _ _
   obtain⟨⟨-,t1,t2,-,-⟩,-⟩:=Y0 AE;have S:=(Am (show Bi K.heap.size K U by rw[A0];go_grown)).cell _ _ S;have A1:=qh (Q0 A8.o AQ.o);clear A0 AE T m o p q t u z e2 e3 e4 A9 AA;by_cases hv:(bk.length:Int)<=E
   ·have Y:D (Q1e bk (k,l,v,d,ws) (M,G,E,O,P)=(0,3)):=qh (by rw[X.o,if_pos hv])
    have A3:¬E<(bk.length:Int):=by omega
    go_quiet(fail)
    go_wp2;refine Ca (by simp[results,results238,go_sem];first|rfl|done) rfl ?_;first|exact⟨⟨0,0,by rw[Y.o]⟩,by first|exact Q6 A1.o _|go_grown⟩|exact⟨_,_,by rw[Y.o],by first|exact Q6 A1.o _|go_grown⟩
   ·have A3:E<(bk.length:Int):=by omega
    obtain⟨hh,AF⟩:=Q4u AB A3;have AR:=qh (B0.o _ (Q4f AB A3));obtain⟨bb,ob,rfl,hE⟩:=Rd.elem (AZ.o.kept (Am A1.o)) E.toNat hh;rw[AF]at hE;have Y:D (Q1e bk (k,l,v,d,ws) (M,G,E,O,P)=(if Vn (Y4 bk E) G then(7,0)else(0,9))):=qh (by rw[X.o,if_neg hv]);generalize Y4 bk E=L at *
    obtain⟨a,b,m0,-,-,hN⟩:=hE.net;simp only[Ty.sz,Cb]at m0;have HN:=qh hN;have AG:=Ac U _ m0;simp only at AG;clear hE hN AF hh;go_quiet(fail)
    refine Qq ?_;intro C AH;have AI:D (Bi U.heap.size U C):=qh (by rw[AH];exact Q6 (Ai _ _) _);have AS:=qh (Q0 A1.o AI.o);have B:=Am AI.o;have AT:D (∀F,Bi C.heap.size C F->F.cell? ⟨g,1,N⟩=R (A (R ⟨bb,ob,N⟩) bk.length c0)/\F.cell? ⟨K.heap.size,1,N⟩=R (I Z G)/\F.cell? ⟨K.heap.size,2,N⟩=R (I Z E)/\F.cell? ⟨bb,ob+E.toNat,N⟩=R (A a L.length b)):=qh (λF H=>Q6z H (B.cell _ _ S) (B.cell _ _ t1) (B.cell _ _ t2) (B.cell _ _ m0));have AJ:D (∀F,Bi C.heap.size C F->Rd Je F [A a L.length b] L):=qh (λF H=>HN.o.kept (B.trans (Am H)));have V:=qh (Qfk AR.o);have AK:D (-1000<=G/\G<=1000):=qh (by omega);have AL:Bi C.heap.size C C.drew:=(Ai _ _).drew;have A4:=qh AL;have A5:D (Bi C.heap.size C (C.alloc (.cells #[A N 0 0] 71)).drew):=qh (((Ai _ _).alloc (Aj _) _).drew);have AM:=qh (Aj C.heap.size);clear AH B S t1 t2 m0 AL AG;go_upto_region 12 with fail
    go_cut [11] (λx wx=>x=.bool (Vn L G)/\Bi C.heap.size C wx)
    case first=>
     go_region_held3(λF=>F.cell? ⟨g,1,N⟩=R (A (R ⟨bb,ob,N⟩) bk.length c0)/\F.cell? ⟨K.heap.size,1,N⟩=R (I Z G)/\F.cell? ⟨K.heap.size,2,N⟩=R (I Z E)/\F.cell? ⟨bb,ob+E.toNat,N⟩=R (A a L.length b))
      (((refine AT.o _ ?_);(first|with_reducible exact J.o|with_reducible exact J.o.alloc J.o.size _|(with_reducible exact(J.o.alloc J.o.size _).setCell J.o.size _)|(with_reducible exact J.o.setCell AM.o _)|with_reducible exact A4.o|with_reducible exact A5.o|go_grown)))
      (first
       |((go_at_call 241;(with_reducible refine(Q2p C.drew [A a L.length b] L G (AJ.o _ A4.o) V.o.1 V.o.2.1 V.o.2.2 AK.o).mono ?_);rintro e A6 ⟨AU,AV,AW,rfl,-,H⟩;have J:=qh (Q0 A4.o H);clear H))
       |((go_at_call 241;(with_reducible refine(Q2p ((C.alloc (.cells #[A N 0 0] 71)).drew) [A a L.length b] L G (AJ.o _ A5.o) V.o.1 V.o.2.1 V.o.2.2 AK.o).mono ?_);rintro e A6 ⟨AU,AV,AW,rfl,-,H⟩;have J:=qh (Q0 A5.o H);have A7:=Qe (w:=(C.alloc (.cells #[A N 0 0] 71)).drew) (Bg C (.cells #[A N 0 0] 71)) H;have B8:A6.cell? ⟨C.heap.size,0,N⟩=R (A N 0 0):=Q8 A7 rfl;have B9:A6.frozen? ⟨C.heap.size,0,N⟩=Bm:=Q0f.free ⟨_,A7⟩ 0;clear H A7))
       |fail)
     all_goals(go_wp2_with fail;go_meet)
     ·exact⟨rfl,J.o.alloc J.o.size _⟩
     ·exact⟨rfl,J.o.setCell AM.o _⟩
    case rest=>
     obtain⟨rfl,AN⟩:=hcut;have A2:=qh (Q0 AS.o AN);clear AN;cases ho:Vn L G
     ·have f:D (Q1e bk (k,l,v,d,ws) (M,G,E,O,P)=(0,9)):=qh (by rw[Y.o,ho];rfl)
      clear ho;go_wp2_with fail
      refine Ca (by simp[results,results238,go_sem];first|rfl|done) rfl ?_;first|exact⟨⟨_,_,by rw[f.o]⟩,A2.o⟩|exact⟨_,_,by rw[f.o],A2.o⟩
     ·have f:D (Q1e bk (k,l,v,d,ws) (M,G,E,O,P)=(7,0)):=qh (by rw[Y.o,ho];rfl)
      clear ho;go_wp2_with fail
      refine Ca (by simp[results,results238,go_sem];first|rfl|done) rfl ?_;first|exact⟨⟨_,_,by rw[f.o]⟩,A2.o⟩|exact⟨_,_,by rw[f.o],A2.o⟩
theorem Q6j:∀(n:List Qb) (z:Int),z<=n.foldl (λl x=>max l (aL x)) z/\(∀x∈n,aL x<=n.foldl (λl x=>max l (aL x)) z)/\∀B,z<=B->(∀x∈n,aL x<=B)->n.foldl (λl x=>max l (aL x)) z<=B
 | [],z=>⟨Int.le_refl _,⟨λ_ h=>(List.not_mem_nil h).elim,λB h _=>h⟩⟩
 |a::n,z=>by
  obtain⟨H,F,G⟩:=Q6j n (max z (aL a));rw[List.foldl_cons];refine⟨by omega,λx C=> ?_,λB J E=>G B (by have:=E a Ae;omega) λx C=>E x (Aa _ C)⟩;rcases Aq.1 C with rfl|C
  ·omega
  ·exact F x C
theorem Q7s{n:Qr2}(h:Ys n=Bn){l:Int}(O:0<=l)(P:l<=8):Vn n l=decide (V6 n+l<=8):=by
 obtain⟨-,H,-,-⟩:=Y5 h;obtain⟨S,J,K⟩:=Q6j n 0;by_cases E:V6 n+l<=8
 ·rw[decide_eq_true E]
  unfold Vn;rw[Bf];intro x F;have:=J x F;unfold Qql;rw[Gb];right;unfold V6 at E;exact decide_eq_true (by omega)
 ·rw[decide_eq_false E]
  cases he:Vn n l with
  |false=>rfl
  |true=>
   exfalso;apply E;have L:=Bf.1 he;have T:V6 n<=8-l:=K (8-l) (by omega) λx F=>by
    have B:=L x F;unfold Qql at B;rw[Gb]at B;rcases B with B|B
    ·have M:Y1 (aK x)=Bm:=by simpa using B
     obtain⟨i,G,rfl⟩:=Av.1 F;have C:=H i G;rw[Qx G]at C;unfold Yc Zy at C;rw[M]at C;simp only[Bool.and_eq_true,Cv,if_false,beq_iff_eq]at C;have:=C.1.2.2;omega
    ·have:=of_decide_eq_true B;omega
   omega
theorem Qfl{bk:List Qr2}{cs:List Qb}{p:Wd}(L:Zy (aK (Q7 cs p.1)) (aL (Q7 cs p.1))=Bn)(M:Zy (aK (Q7 cs p.2)) (aL (Q7 cs p.2))=Bn)(G:∀n∈bk,Ys n=Bn)
  (O:Z4 cs p=7->(0<=aV (xM cs p))/\0<=aL (xM cs p)/\aL (xM cs p)<=8):
  (Q1e bk (Z7 (Q7 cs p.1)) (Z7 (Q7 cs p.2))).2=(Zn bk cs p).2/\((Zn bk cs p).2=0->(Q1e bk (Z7 (Q7 cs p.1)) (Z7 (Q7 cs p.2))).1=Z4 cs p/\Z4 cs p≠8)/\
  (Z4 cs p=7->aV (Q4a (Z7 (Q7 cs p.1)) (Z7 (Q7 cs p.2)))=aV (xM cs p)/\aL (Q4a (Z7 (Q7 cs p.1)) (Z7 (Q7 cs p.2)))=aL (xM cs p)):=by
 obtain⟨P,S⟩:=Qlb L M;have T:(Vr (Z7 (Q7 cs p.1)) (Z7 (Q7 cs p.2))).1=Z4 cs p:=P;have U:Z4 cs p≠8->aV (Q4a (Z7 (Q7 cs p.1)) (Z7 (Q7 cs p.2)))=aV (xM cs p)/\aL (Q4a (Z7 (Q7 cs p.1)) (Z7 (Q7 cs p.2)))=aL (xM cs p):=λV=>by have:=S V;unfold xM;rw[<-this];unfold Qr3 Q4a;show aV (if(Vr (Q7 cs p.1) (Q7 cs p.2)).2=Bn then _ else _)=_/\aL (if(Vr (Q7 cs p.1) (Q7 cs p.2)).2=Bn then _ else _)=_;cases (Vr (Q7 cs p.1) (Q7 cs p.2)).2<;>exact⟨rfl,rfl⟩
 unfold Q1e;rw[T];generalize hc:Z4 cs p=c at *
 by_cases C:c=8
 ·subst C
  unfold Zn;rw[hc];exact⟨rfl,λh=>(by simp at h),λh=>absurd h (by decide)⟩
 by_cases E:c=7
 ·subst E
  obtain⟨f1,f2⟩:=U (by decide);obtain⟨H,J,K⟩:=O rfl;unfold Zn;rw[hc,if_neg (by decide),if_pos rfl,f1,f2];simp only[Int.reduceBEq,Cv,if_false,if_true];refine⟨?_, ?_,λ_=>⟨trivial,trivial⟩⟩
  ·by_cases B:(bk.length:Int)<=aV (xM cs p)
   ·rw[if_pos B,if_pos B]
   ·rw[if_neg B,if_neg B,Q7s (G _ (Q4f H (by omega))) J K]
    by_cases F:V6 (Y4 bk (aV (xM cs p)))+aL (xM cs p)<=8
    ·rw[decide_eq_true F,if_pos rfl,if_neg (by omega)]
    ·rw[decide_eq_false F,if_neg (by decide),if_pos (by omega)]
  ·by_cases B:(bk.length:Int)<=aV (xM cs p)
   ·rw[if_pos B];intro h;exact absurd h (by decide)
   ·rw[if_neg B,if_neg B,Q7s (G _ (Q4f H (by omega))) J K]
    by_cases F:V6 (Y4 bk (aV (xM cs p)))+aL (xM cs p)<=8
    ·rw[decide_eq_true F,if_pos rfl];intro _;exact⟨rfl,by decide⟩
    ·rw[if_pos (by omega)];intro h;exact absurd h (by decide)
 ·rw[if_neg C,if_neg E]
  have W:(Zn bk cs p).2=0:=by
   unfold Zn;rw[hc];have X:(c==8)=Bm:=by simpa using C
   have Y:(c==7)=Bm:=by simpa using E
   rw[X,Y];simp only[Cv,if_false];repeat' split
   all_goals rfl
  exact⟨W.symm,λ_=>⟨rfl,C⟩,λh=>absurd h E⟩
theorem Qjg(w:World)(g:Nat)(m:Qqp)(h:At Qo w g 0 m)(S:Option Addr)(L:Nat)(bk:List Qr2)(O:w.cell? ⟨g,5,N⟩=R (A S bk.length L))(AL:Rd (.slice Je) w [A S bk.length L] bk)(BC:bk.length<=Bp)(A6:∀n∈bk,Ys n=Bn)
  (p q:Int) (hp:Qq9 (mC m) (p,q)) (AM:(aW (Q7 (mC m) p)).length<=100000000) (AN:(aW (Q7 (mC m) q)).length<=100000000) (hx:Zy (aK (Q7 (mC m) p)) (aL (Q7 (mC m) p))=Bn) (hy:Zy (aK (Q7 (mC m) q)) (aL (Q7 (mC m) q))=Bn)
  (h7:Z4 (mC m) (p,q)=7->0<=aV (xM (mC m) (p,q))/\0<=aL (xM (mC m) (p,q))/\aL (xM (mC m) (p,q))<=8):
  Calls prog 206 #[.pointer (R ⟨g,0,N⟩),.agg #[I Z p,I Z q]] w λe w'=>e=.returned (.tuple #[I Z (Zn bk (mC m) (p,q)).1,I Z (Zn bk (mC m) (p,q)).2])/\Bi w.heap.size w w':=by
 have HM:=qh h;have z:=qh hp;have AO:=qh AL;have AP:=qh A6;have c:=qh (And.intro AM AN);obtain⟨AQ,AR,AS⟩:=Qfl (bk:=bk) (p:=(p,q)) hx hy A6 h7;obtain⟨AT,AU⟩:=Qlb (p:=(p,q)) hx hy;have BD:=qh AQ;have BE:=qh AR;have BF:=qh AS;have AV:=qh AT;have BG:=qh AU;have H7:=qh h7;have BH:=Ac w _ O;simp only at BH;clear h hp AL A6 AM AN hx hy h7 AQ AR AS AT AU;go_enter func206,ntmps206;go_upto_region 1 with fail
 refine Qq ?_;intro W hW;have A7:D (Bi w.heap.size w W):=qh (by rw[hW];go_grown);have AW:W.heap[w.heap.size]?=R (.cells #[I Z p,I Z q] 117 (0,0)):=by rw[hW];exact Bg w _
 obtain⟨⟨A1,A2⟩,-⟩:=Za AW;replace O:=(Am A7.o).cell _ _ O;have AX:Bi W.heap.size W W.drew:=(Ai _ _).drew;have A8:=qh AX;have HS:D (∀B,Bi W.heap.size W B->B.cell? ⟨w.heap.size,0,N⟩=R (I Z p)/\B.cell? ⟨w.heap.size,1,N⟩=R (I Z q)/\B.cell? ⟨g,5,N⟩=R (A S bk.length L)):=qh (λB G=>Q9c G A1 A2 O);clear hW AW AX
 go_region_held3(λB=>B.cell? ⟨w.heap.size,0,N⟩=R (I Z p)/\B.cell? ⟨w.heap.size,1,N⟩=R (I Z q)/\B.cell? ⟨g,5,N⟩=R (A S bk.length L))
  (((with_reducible refine HS.o _ ?_);(first|with_reducible exact A8.o|with_reducible exact A0.o|with_reducible exact A0.o.alloc A0.o.size _|go_grown)))
  (first
   |((go_at_call 237;(with_reducible refine(Qls _ g 0 m (HM.o.kept (Am (Q0 A7.o A8.o))) p q z.o c.o.1 c.o.2).mono ?_);rintro e w1 ⟨vs,rfl,hn,G⟩;obtain⟨pn,cn,rfl,-,-,hn⟩:=J6 hn;have HN:=qh hn;have A0:=qh (Q0 A8.o G);clear hn G))
   |fail)
 refine Qq ?_;intro T A9;have AA:D (Bi w1.heap.size w1 T):=qh (by rw[A9];go_grown);have AB:T.heap[w1.heap.size]?=R (.cells #[A pn (Qi4 m p q).length cn,A S bk.length L,.map N] 282 (0,0)):=by rw[A9];exact Bg w1 _
 have AY:=qh (Q0 A7.o (Q0 A0.o AA.o));have x0:T.cell? ⟨w1.heap.size,0,N⟩=R (A pn (Qi4 m p q).length cn):=Q8 AB rfl;have x1:T.cell? ⟨w1.heap.size,1,N⟩=R (A S bk.length L):=Q8 AB rfl;have BI:D (At Je T w1.heap.size 0 [Z7 (Q7 (mC m) p),Z7 (Q7 (mC m) q)]):=qh (⟨[A pn (Qi4 m p q).length cn],rfl,λj hj=>by
  have:j=0:=by simpa using hj
  subst this;exact x0,HN.o.kept (Am AA.o)⟩)
 have X1:=qh x1;have BJ:D (∀B,Bi T.heap.size T B->B.cell? ⟨w.heap.size,0,N⟩=R (I Z p)/\B.cell? ⟨w.heap.size,1,N⟩=R (I Z q)/\B.cell? ⟨g,5,N⟩=R (A S bk.length L)):=qh (λB G=>HS.o B (Q0 A0.o (Q0 AA.o G)));have BK:=qh (AO.o.kept (Am AY.o));have BL:D ((Vr (Z7 (Q7 (mC m) p)) (Z7 (Q7 (mC m) q))).1=7->0<=aV (Q4a (Z7 (Q7 (mC m) p)) (Z7 (Q7 (mC m) q)))/\0<=aL (Q4a (Z7 (Q7 (mC m) p)) (Z7 (Q7 (mC m) q)))/\aL (Q4a (Z7 (Q7 (mC m) p)) (Z7 (Q7 (mC m) q)))<=1000):=qh (λe=>by have e':Z4 (mC m) (p,q)=7:=AV.o.symm.trans e;obtain⟨f1,f2⟩:=BF.o e';obtain⟨g1,g2,g3⟩:=H7.o e';rw[show aV (Q4a (Z7 (Q7 (mC m) p)) (Z7 (Q7 (mC m) q)))=_ from f1,show aL (Q4a (Z7 (Q7 (mC m) p)) (Z7 (Q7 (mC m) q)))=_ from f2];exact⟨g1,g2,by omega⟩);obtain⟨r,hr⟩:∃r,Q1e bk (Z7 (Q7 (mC m) p)) (Z7 (Q7 (mC m) q))=r:=⟨_,rfl⟩;have BM:=qh hr;have AC:D (r.2=(Zn bk (mC m) (p,q)).2):=qh (by rw[<-hr];exact BD.o);have BN:D ((Zn bk (mC m) (p,q)).2=0->r.1=Z4 (mC m) (p,q)/\Z4 (mC m) (p,q)≠8):=qh (by rw[<-hr];exact BE.o);obtain⟨cc,ec⟩:=r;clear A9 AB hr x0 x1;go_upto_region 3 with((go_at_call 238;(with_reducible refine(Qmq T w1.heap.size _ _ BI.o S L bk X1.o BK.o BC AP.o BL.o).mono ?_);rintro e w3 ⟨ci,cj,rfl,G⟩;rw[BM.o];have AZ:=qh G;clear G))
 obtain⟨A1,A2,O⟩:=BJ.o w3 AZ.o;have AD:=qh (Q0 AY.o AZ.o);by_cases qe:ec=0;case neg=>
  have B0:D ((Zn bk (mC m) (p,q)).1=0/\(Zn bk (mC m) (p,q)).2=ec):=qh (⟨by
   have h2:(Zn bk (mC m) (p,q)).2≠0:=by rw[<-AC.o];exact qe
   revert h2;unfold Zn;repeat' split
   all_goals simp,AC.o.symm⟩)
  go_wp2_with fail
  go_ret2
  exact⟨by rw[B0.o.1,B0.o.2];rfl,AD.o⟩
 case pos=>
  subst qe;have P:D ((Zn bk (mC m) (p,q)).2=0):=qh (AC.o.symm);obtain⟨AE,AF⟩:=BN.o P.o;have AE:cc=Z4 (mC m) (p,q):=AE;subst AE;go_upto_region 5 with fail
  obtain⟨C,J⟩:∃C,Z4 (mC m) (p,q)=C:=⟨_,rfl⟩;obtain⟨⟨E,M⟩,U⟩:∃f,Zl (mC m) (p,q)=f:=⟨_,rfl⟩;have BO:D (Ending.returned (.tuple #[I Z (Vr (Q7 (mC m) p) (Q7 (mC m) q)).1,I Z (Qr3 (mC m) (p,q)).1,I Z (Qr3 (mC m) (p,q)).2])=Ending.returned (.tuple #[I Z C,I Z E,I Z M])):=qh (by rw[show(Vr (Q7 (mC m) p) (Q7 (mC m) q)).1=C from AV.o.trans J,BG.o AF,U]);have BP:D (Qq9 (mC m) (E,M)):=qh (by
   rcases Q3m (mC m) (p,q)with⟨e,-⟩|⟨e,-⟩
   ·rw[<-U,e];exact z.o
   ·rw[<-U,e];exact⟨z.o.2,z.o.1⟩)
  have AG:D (xM (mC m) (p,q)=Q7 (mC m) E):=qh (by unfold xM;rw[U]);have BQ:D (yM (mC m) (p,q)=Q7 (mC m) M):=qh (by unfold yM;rw[U]);have A3:D ((aW (Q7 (mC m) E)).length<=100000000/\(aW (Q7 (mC m) M)).length<=100000000):=qh (by
   rcases Q3m (mC m) (p,q)with⟨e,-⟩|⟨e,-⟩
   ·rw[U]at e;cases e;exact c.o
   ·rw[U]at e;cases e;exact⟨c.o.2,c.o.1⟩)
  have V:=qh (show(Zn bk (mC m) (p,q)).1=(if C==8 then 0
   else if C==3 then 2+3 * ((aW (Q7 (mC m) M)).length:Int)else if C==4 then((aW (Q7 (mC m) M)).length:Int)else if C==5 then 1 else if C==6 then 1+((aW (Q7 (mC m) E)).length:Int)
   else if C==7 then(if(bk.length:Int)<=aV (Q7 (mC m) E)then 0 else if 8<V6 (Y4 bk (aV (Q7 (mC m) E)))+aL (Q7 (mC m) E)then 0 else((Y4 bk (aV (Q7 (mC m) E))).length:Int)-1+((Zv (Y4 bk (aV (Q7 (mC m) E)))).length:Int))else 0)by
   unfold Zn;rw[J,AG.o,BQ.o];repeat' split
   all_goals rfl)
  have A4:=qh (show(Zn bk (mC m) (p,q)).2=(if C==8 then 11 else if C==3 then 0 else if C==4 then 0 else if C==5 then 0 else if C==6 then 0
   else if C==7 then(if(bk.length:Int)<=aV (Q7 (mC m) E)then 3 else if 8<V6 (Y4 bk (aV (Q7 (mC m) E)))+aL (Q7 (mC m) E)then 9 else 0)else 0)by
   unfold Zn;rw[J,AG.o];repeat' split
   all_goals rfl)
  have AH:D (C=7->0<=aV (Q7 (mC m) E)):=qh (by rw[<-AG.o,<-J];exact λe=>(H7.o e).1);rw[J]at AF⊢;clear J U;have BR:=qh (HM.o.kept (Am AD.o));(refine Z0 (λw'=>Bi w3.heap.size w3 w') (by kernel_rfl) (by kernel_rfl) (Ai _ _).drew ?_;(repeat(first|go_big_quiet_skip|(go_big_quiet_want;apply Exists.intro;refine⟨λw' J=> ?_, ?_⟩;(focus(have C7:=(Am J).cell _ _ A1;have C8:=(Am J).cell _ _ A2;go_simp;first|done|with_reducible rfl|(((go_at_call 207;(with_reducible refine(Qat _ g 0 m (BR.o.kept (Am J)) p q z.o c.o.1 c.o.2).mono ?_);exact λe w4 ⟨he,G⟩=>⟨he.trans BO.o,Q0 J G⟩)))));simp only[Act.put,Ci,Cs,Cw];go_big_quiet_on)));refine Ds ?_;intro F hz)
  have b:=qh (Q0 AD.o hz);have B1:=HM.o.kept (Am b.o);obtain⟨pc,cc,px,cx,⟨m0,-,-,-,-⟩,-,⟨-,BS,AI⟩,-⟩:=At.mem (cs:=mC m) (f:=mF m) (t:=(mR m).1) (a:=(mR m).2) (xs:=mX m) B1;replace O:=(Am hz).cell _ _ O;obtain⟨⟨BT,BU⟩,BV,BW⟩:=BP.o;simp only at BT BU BV BW;have B2:E.toNat<(mC m).length:=by omega
  have B3:M.toNat<(mC m).length:=by omega
  obtain⟨b1,o1,rfl,hX⟩:=Rd.elem AI E.toNat B2;obtain⟨b2,o2,B4,hY⟩:=Rd.elem AI M.toNat B3;simp only[Option.some.injEq,Addr.mk.injEq,and_true]at B4;obtain⟨rfl,rfl⟩:=B4;have s:∀i:Int,(h:i.toNat<(mC m).length)->(mC m)[i.toNat]=Q7 (mC m) i:=λi h=>by rw[Q7,Qx h]
  rw[s E B2]at hX;rw[s M B3]at hY;simp only[Ty.sz,Bj]at hX hY;unfold Bp at BS;clear B1 AI s;generalize Q7 (mC m) E=X at *
  generalize Q7 (mC m) M=Y at *
  obtain⟨k,l,v,d,ws⟩:=X;obtain⟨k',l',v',d',o⟩:=Y;simp only[aW,aV,aL]at V A4 A3 AH;obtain⟨pd,cd,pw,cw,⟨a0,a1,a2,a3,a4⟩,-,-,-⟩:=hX.agent;obtain⟨qd,dd,qw,dw,⟨e0,e1,e2,e3,e4⟩,-,-,-⟩:=hY.agent;have BX:=Ac F _ a0;simp only at BX;have BY:D (ws.length<=100000000):=qh (A3.o.1);have B5:D (o.length<=100000000):=qh (A3.o.2);clear hX hY A3;go_upto_region 7 with fail
  by_cases s3:C=3
  ·subst s3
   have K:D ((Zn bk (mC m) (p,q)).1=2+3 * (o.length:Int)):=qh (V.o);have B6:IntKind.i64.wrap (3 * (o.length:Int))=3 * (o.length:Int):=by have:=B5.o;simp only[Cx];omega
   have BZ:IntKind.i64.wrap (2+3 * (o.length:Int))=2+3 * (o.length:Int):=by have:=B5.o;simp only[Cx];omega
   go_wp2_with fail
   go_ret2
   exact⟨by rw[K.o,P.o];rfl,b.o⟩
  by_cases s4:C=4
  ·subst s4
   have K:D ((Zn bk (mC m) (p,q)).1=(o.length:Int)):=qh (V.o);go_wp2_with fail
   go_ret2
   exact⟨by rw[K.o,P.o];rfl,b.o⟩
  by_cases s5:C=5
  ·subst s5
   have K:D ((Zn bk (mC m) (p,q)).1=1):=qh (V.o);go_wp2_with fail
   go_ret2
   exact⟨by rw[K.o,P.o];rfl,b.o⟩
  by_cases s6:C=6
  ·subst s6
   have K:D ((Zn bk (mC m) (p,q)).1=1+(ws.length:Int)):=qh (V.o);have B6:IntKind.i64.wrap (1+(ws.length:Int))=1+(ws.length:Int):=by have:=BY.o;simp only[Cx];omega
   go_wp2_with fail
   go_ret2
   exact⟨by rw[K.o,P.o];rfl,b.o⟩
  by_cases s7:C=7;case neg=>
   have K:D ((Zn bk (mC m) (p,q)).1=0):=qh (by rw[V.o];simp[s3,s4,s5,s6,s7,AF]);go_wp2_with fail
   go_ret2
   exact⟨by rw[K.o,P.o];rfl,b.o⟩
  case pos=>
   subst s7;go_upto_region 17 with fail
   have B7:0<=v:=AH.o rfl;have B8:v<(bk.length:Int):=by
    have h1:=A4.o;rw[P.o]at h1;by_cases hh:(bk.length:Int)<=v
    ·simp[hh]at h1
    ·omega
   have K:D ((Zn bk (mC m) (p,q)).1=((Y4 bk v).length:Int)-1+((Zv (Y4 bk v)).length:Int)):=qh (by
    have h1:=A4.o;rw[P.o]at h1;have h2:¬(bk.length:Int)<=v:=by omega
    have h3:¬8<V6 (Y4 bk v)+l:=λh=>by simp[h2,h]at h1
    rw[V.o];simp[h2,h3])
   obtain⟨hh,s⟩:=Q4u B7 B8;have B9:=qh (AP.o _ (Q4f B7 B8));obtain⟨bb,ob,rfl,hE⟩:=Rd.elem (AO.o.kept (Am b.o)) v.toNat hh;rw[s]at hE;clear s hh A4 V AH;generalize Y4 bk v=H at *
   obtain⟨u,y,n0,-,-,hN⟩:=hE.net;simp only[Ty.sz,Cb]at n0;have HN:=qh hN;have C0:=Ac F _ n0;have C1:=Ac F _ O;simp only at C0 C1;have C2:D (∀B,Bi F.heap.size F B->B.cell? ⟨g,5,N⟩=R (A (R ⟨bb,ob,N⟩) bk.length L)/\B.cell? ⟨g,0,N⟩=R (A (R ⟨b1,o1,N⟩) (mC m).length cc)/\B.cell? ⟨b1,o1+E.toNat * 5+2,N⟩=R (I Z v)/\B.cell? ⟨bb,ob+v.toNat,N⟩=R (A u H.length y)):=qh (λB G=>Q6z G O m0 a2 n0);have C9:=qh (Aj F.heap.size);have C3:D (Bi F.heap.size F F.drew):=qh ((Ai _ _).drew);clear hE hN a0 a1 a3 a4 e0 e1 e2 e3 e4 A1 A2;go_cut [15] (λx wx=>x=.pointer (R ⟨F.heap.size,0,N⟩)/\wx.heap[F.heap.size]?=R (.cells #[A u H.length y] 71 (0,0))/\Bi F.heap.size F wx)
   case first=>
    go_region_held3(λB=>B.cell? ⟨g,5,N⟩=R (A (R ⟨bb,ob,N⟩) bk.length L)/\B.cell? ⟨g,0,N⟩=R (A (R ⟨b1,o1,N⟩) (mC m).length cc)/\B.cell? ⟨b1,o1+E.toNat * 5+2,N⟩=R (I Z v)/\B.cell? ⟨bb,ob+v.toNat,N⟩=R (A u H.length y))
     (((refine C2.o _ ?_);(first|with_reducible exact C3.o|go_grown))) (first|fail)
    all_goals(go_wp2_with fail;go_meet)
    all_goals exact⟨rfl,Bg F _,by go_grown⟩
   case rest=>
    obtain⟨rfl,AJ,A5⟩:=hcut;have CA:=qh A5;have C4:=qh (Q0 b.o A5);have C5:wc.cell? ⟨F.heap.size,0,N⟩=R (A u H.length y):=Q8 AJ rfl;have C6:D (At Je wc F.heap.size 0 H):=qh (At.ofBox (us:=[A u H.length y]) AJ (HN.o.kept (Am A5)));have AK:D (Bi wc.heap.size wc wc.drew):=qh ((Ai _ _).drew);obtain⟨⟨CB,CC⟩,-,-,BA⟩:=Y5 B9.o;have CD:=Q63 BA;have B6:IntKind.i64.wrap ((H.length:Int)-1)=(H.length:Int)-1:=by simp only[Cx];omega
    have BZ:IntKind.i64.wrap ((H.length:Int)-1+((Zv H).length:Int))=(H.length:Int)-1+((Zv H).length:Int):=by simp only[Cx];omega
    clear AJ A5 BA;go_upto_region 18 with fail
    go_region_held3(λB=>B.cell? ⟨F.heap.size,0,N⟩=R (A u H.length y))
     (((with_reducible refine(Am (w:=wc) ?_).cell _ _ C5);(first|with_reducible exact AK.o|with_reducible exact BB.o)))
     ((go_at_call 239;(with_reducible refine(Qhd _ F.heap.size 0 H (C6.o.kept (Am AK.o)) B9.o).mono ?_);rintro e wf ⟨vv,rfl,ho,G⟩;obtain⟨pi,CE,rfl,-,-⟩:=ho.form;have BB:=qh (Q0 AK.o G);clear ho G))
    all_goals
     go_wp2_with fail
     go_ret2
     exact⟨by rw[K.o,P.o];rfl,Q0 C4.o BB.o⟩
theorem Q5z{p:Qb->Bool}{xs:List Qb}{k:Nat}(h:k<xs.length):(((xs.take (k+1)).countP p:Nat):Int)=((xs.take k).countP p:Nat)+Q23 (p xs[k]):=by
 rw[Q86 h];unfold Q23;split<;>simp_all
theorem Q9r(p:Qb->Bool)(xs:List Qb)(k:Nat):(xs.take k).countP p<=xs.length:=by
 refine Au List.countP_le_length ?_;rw[List.length_take];omega
theorem Qcd(b:Bool):0<=Q23 b/\Q23 b<=1:=by cases b<;>simp[Q23]
theorem Qbp(w:World)(b o:Nat)(m:Qqp)(h:At Qo w b o m)(hn:(mC m).length<=1000000):
  Calls prog 208 #[.pointer (R ⟨b,o,N⟩)] w λe w'=>e=.returned (.tuple #[I Z (((mC m).countP (λc=>J5 (aK c)):Nat):Int),I Z (((mC m).countP (λc=>aK c==13):Nat):Int),I Z ((Z3 (mC m):Nat):Int)])/\Bi w.heap.size w w':=by
 obtain⟨pc,cc,px,cx,⟨c0,-,-,-,-⟩,-,⟨-,A3,z⟩,-⟩:=At.mem (cs:=mC m) (f:=mF m) (t:=(mR m).1) (a:=(mR m).2) (xs:=mX m) h;have HC:=qh z;have A4:=Ac w _ c0;simp only at A4;unfold Bp at A3;generalize mC m=cs at *
 clear h z;go_enter func208,ntmps208;go_wp2_with fail
 go_loopw [2,3,4,12] (λu2 u3 u4 i wr=>∃(j:Nat),j<=cs.length/\i=I Z j/\u2=I Z (((cs.take j).countP (λc=>J5 (aK c)):Nat):Int)/\u3=I Z (((cs.take j).countP (λc=>aK c==13):Nat):Int)/\u4=I Z (((cs.take j).countP (λc=>aK c==0):Nat):Int)/\D (Bi w.heap.size w wr)) (λ_ _ _ i _=>cs.length-(intOf i).toNat);case atStart=>exact⟨0,Ak _,rfl,rfl,rfl,rfl,Ai _ _⟩
 case round=>
  obtain⟨j,hj,rfl,rfl,rfl,rfl,T⟩:=hrel;by_cases J:j<cs.length
  ·obtain⟨b1,o1,rfl,U⟩:=Rd.elem (HC.o.kept (Am T.o)) j J
   have A5:=qh (Q5z (p:=λc=>J5 (aK c)) J);have A6:=qh (Q5z (p:=λc=>aK c==13) J);have A7:=qh (Q5z (p:=λc=>aK c==0) J);have A8:=Q9r (λc=>J5 (aK c)) cs j;have A9:=Q9r (λc=>aK c==13) cs j;have AA:=Q9r (λc=>aK c==0) cs j;generalize cs[j]=x at *
   obtain⟨k,l,v,d,ws⟩:=x;obtain⟨C,E,F,G,⟨e0,e1,e2,V,X⟩,-,-,-⟩:=U.agent;have Y:D (∀W,Bi wr.heap.size wr W->Rd Q3 W [I Z k,I Z l,I Z v,A C d.length E,A F ws.length G] (k,l,v,d,ws)):=qh (λW B=>(U.rdv V X).kept (Am B));simp only[Ty.sz,Bj]at e0 e1 e2 V X;clear U;generalize (cs.take j).countP (λc=>J5 (aK c))=n1 at *
   generalize (cs.take j).countP (λc=>aK c==13)=n2 at *
   generalize (cs.take j).countP (λc=>aK c==0)=n3 at *
   obtain⟨g,A0⟩:∃t,Q23 (J5 k)=t:=⟨_,rfl⟩;obtain⟨n,A1⟩:∃t,Q23 (k==13)=t:=⟨_,rfl⟩;obtain⟨q,A2⟩:∃t,Q23 (k==0)=t:=⟨_,rfl⟩;have H:=qh (And.intro A0 (And.intro A1 A2));have AE:IntKind.i64.wrap ((n1:Int)+g)=(n1:Int)+g:=by have:=Qcd (J5 k);simp only[Cx];omega
   have AF:IntKind.i64.wrap ((n2:Int)+n)=(n2:Int)+n:=by have:=Qcd (k==13);simp only[Cx];omega
   have AG:IntKind.i64.wrap ((n3:Int)+q)=(n3:Int)+q:=by have:=Qcd (k==0);simp only[Cx];omega
   clear A0 A1 A2 A8 A9 AA;have AH:(j:Int)<cs.length:=by omega
   have AI:(0:Int)<=j:=by omega
   go_upto_region 4 with fail
   refine Qq ?_;intro r s;have K:D (Bi wr.heap.size wr r):=qh (by rw[s];go_grown);obtain⟨L,M,O,P,S⟩:=Q0n wr (I Z k) (I Z l) (I Z v) (A C d.length E) (A F ws.length G) 134;rw[<-s]at L M O P S;have HG:D (∀W,Bi r.heap.size r W->W.cell? ⟨wr.heap.size,0,N⟩=R (I Z k)/\W.cell? ⟨wr.heap.size,1,N⟩=R (I Z l)/\W.cell? ⟨wr.heap.size,2,N⟩=R (I Z v)/\W.cell? ⟨wr.heap.size,3,N⟩=R (A C d.length E)/\W.cell? ⟨wr.heap.size,4,N⟩=R (A F ws.length G)):=qh (λW B=>Qar B L M O P S);clear s e0 e1 e2 V X;go_upto_region 5 with(first|((go_at_call 201;(with_reducible refine(Q47 _ [I Z k,I Z l,I Z v,A C d.length E,A F ws.length G] _ (Y.o _ K.o)).mono ?_);rintro e w2 ⟨rfl,B⟩;have u:=qh B;clear B))|((go_at_call 109;(with_reducible refine(Q2g _ _).mono ?_);rintro e w3 ⟨rfl,rfl⟩;rw[show Q23 (J5 (aK (k,l,v,d,ws)))=g from H.o.1]))|fail)
   obtain⟨L,M,O,P,S⟩:=HG.o _ u.o;go_upto_region 6 with(first|((go_at_call 173;(with_reducible refine(Q0r _ [I Z k,I Z l,I Z v,A C d.length E,A F ws.length G] _ (Y.o _ (Q0 K.o u.o))).mono ?_);rintro e w4 ⟨rfl,B⟩;have y:=qh (Q0 u.o B);clear B))|((go_at_call 109;(with_reducible refine(Q2g _ _).mono ?_);rintro e w5 ⟨rfl,rfl⟩;rw[show Q23 (aK (k,l,v,d,ws)==13)=n from H.o.2.1]))|fail)
   obtain⟨L,M,O,P,S⟩:=HG.o _ y.o;go_upto_region 7 with(first|((go_at_call 202;(with_reducible refine(Vl _ [I Z k,I Z l,I Z v,A C d.length E,A F ws.length G] _ (Y.o _ (Q0 K.o y.o))).mono ?_);rintro e w6 ⟨rfl,B⟩;have AB:=qh (Q0 y.o B);clear B))|((go_at_call 109;(with_reducible refine(Q2g _ _).mono ?_);rintro e w7 ⟨rfl,rfl⟩;rw[show Q23 (aK (k,l,v,d,ws)==0)=q from H.o.2.2]))|fail)
   go_wp2_with fail
   go_roundw;case rel=>exact⟨j+1,by omega,by go_num,congrArg _ (A5.o.trans (by rw[<-H.o.1];rfl)).symm,congrArg _ (A6.o.trans (by rw[<-H.o.2.1];rfl)).symm,congrArg _ (A7.o.trans (by rw[<-H.o.2.2];rfl)).symm,(show Bi _ _ _ from Q0 T.o (Q0 K.o AB.o))⟩
   case measure=>simp[intOf];omega
  ·have AC:cs.length<=j:=by omega
   have AD:D (cs.take j=cs):=qh (Ao AC);go_wp2_with fail
   refine Ca (by simp[results,results208,go_sem];first|rfl|done) rfl ?_;exact⟨by rw[AD.o];rfl,T.o⟩
end Go.Proofs.YthbpkpnioaniiaaGreat
