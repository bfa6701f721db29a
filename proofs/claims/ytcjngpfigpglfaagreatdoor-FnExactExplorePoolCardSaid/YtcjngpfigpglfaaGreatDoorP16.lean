import Derived.Test.YtcjngpfigpglfaaGreatDoorP15
set_option maxHeartbeats 0
set_option maxRecDepth 100000
set_option linter.all false
namespace Go.Proofs.YtcjngpfigpglfaaGreatDoor
open Go.RowKit Go.Proofs.Tryz
open Go.Value renaming int->I,slice->A
open Go.IntKind renaming i64->Z
open Option renaming none->N,some->R
open OC(oC)
open OR(oR)
open JN(jN)
open Bool renaming true->Bn,false->Bm,false_and->Ct,true_and->Ea,and_false->Ej
open Exists renaming intro->Ee
open Go renaming Calls->Bv,maxLen->Bu,heap_alloc_new->Bg,World->Bh,madeCells->Ds,info_parts->Ck,bodyPost_ret->Ce,wpQuiet_nil->Ek
open Go.RowKit renaming Below->Bp,intOf->By
open Go.Value renaming agg->Dl
open Go.World renaming cell?_alloc_lt->Hy,cell?_setCell_same->Bx,setCell->Gn
open List renaming replicate->Ch,replicate_succ->Hb,length_append->Bo,length_cons->Br,setIfInBounds_toArray->Cn,set_cons_zero->Cv,set_cons_succ->Cx
open Nat renaming reduceAdd->Bj,le_of_lt->Fu
open Option.some renaming injEq->Bt
def Q5c{w}(vs){x:Qb}(h:Rd Q4 w vs x):Bv prog 163 #[.agg vs.toArray] w (oR w (Y9 (aK x))):=by
 obtain⟨k,l,v,d,ws⟩:=x;obtain⟨F,G,H,J,rfl,-,-,-⟩:=h.agentV;clear h;by_cases q0:2<=k
 ·have C:decide (2<=k)=Bn:=by simpa using q0
  by_cases q1:k<=12
  ·have E:decide (k<=12)=Bn:=by simpa using q1
   have B:=D (Y9 k=Bn) (by unfold Y9 Qxi;rw[C,E];rfl);go_enter func163,ntmps163;go_wp2;go_ret;exact⟨Q2 B.o.symm,by go_grown⟩
  have E:decide (k<=12)=Bm:=by simpa using q1
  have B:=D (Y9 k=Bm) (by unfold Y9 Qxi;rw[C,E];rfl);go_enter func163,ntmps163;go_wp2;go_ret;exact⟨Q2 B.o.symm,by go_grown⟩
 have C:decide (2<=k)=Bm:=by simpa using q0
 have B:=D (Y9 k=Bm) (by unfold Y9 Qxi;rw[C];rfl);go_enter func163,ntmps163;go_wp2;go_ret;exact⟨Q2 B.o.symm,by go_grown⟩
def Q18{w}(vs){x:Qb}(h:Rd Q4 w vs x):Bv prog 129 #[.agg vs.toArray] w (oR w (aK x==13)):=by
 obtain⟨k,l,v,d,ws⟩:=x;obtain⟨B,C,E,F,rfl,-,-,-⟩:=h.agentV;clear h;go_enter func129,ntmps129;go_wp2;go_ret;exact⟨rfl,by go_grown⟩
def Vt{w}(vs){x:Qb}(h:Rd Q4 w vs x):Bv prog 165 #[.agg vs.toArray] w (oR w (aK x==0)):=by
 obtain⟨k,l,v,d,ws⟩:=x;obtain⟨B,C,E,F,rfl,-,-,-⟩:=h.agentV;clear h;go_enter func165,ntmps165;go_wp2;go_ret;exact⟨rfl,by go_grown⟩
def Vq{w}(b o:Nat)(p n c)(k:Int)(h:w.cell? (b,o)=R (A p n c)):Bv prog 167 #[(b,o),k] w λe w'=>e=.returned (Qxi k 0 ((n:Int)-1))/\w=w':=by
 have G:Qxi k 0 ((n:Int)-1)=(decide (0<=k) && decide (k<(n:Int))):=by
  unfold Qxi;have:decide (k<=(n:Int)-1)=decide (k<(n:Int)):=by rw[decide_eq_decide];omega
  rw[this]
 have E:=qh G;clear G;by_cases q0:0<=k
 ·have C:decide (0<=k)=Bn:=by simpa using q0
  by_cases q1:k<n
  ·have F:decide (k<(n:Int))=Bn:=by simpa using q1
   have B:=D (Qxi k 0 ((n:Int)-1)=Bn) (by rw[E.o,C,F];rfl);go_enter func167,ntmps167;go_wp2;go_ret;exact⟨Q2 B.o.symm,rfl⟩
  have F:decide (k<(n:Int))=Bm:=by simpa using q1
  have B:=D (Qxi k 0 ((n:Int)-1)=Bm) (by rw[E.o,C,F];rfl);go_enter func167,ntmps167;go_wp2;go_ret;exact⟨Q2 B.o.symm,rfl⟩
 have C:decide (0<=k)=Bm:=by simpa using q0
 have B:=D (Qxi k 0 ((n:Int)-1)=Bm) (by rw[E.o,C];rfl);go_enter func167,ntmps167;go_wp2;go_ret;exact⟨Q2 B.o.symm,rfl⟩
def Qvp{w}(b o)(m:Qyb)(h:At Qq w b o m)(t:Int)(a)(ha:Qyn a):
  Bv prog 123 #[(b,o),.agg #[t,a]] w (oR w (Zc (mC m) (t,a))):=by
 obtain⟨cs,f,⟨rt,ra⟩,xs⟩:=m;obtain⟨pc,j,px,cx,⟨S,-,-,-,-⟩,-,⟨-,hm,hc⟩,-⟩:=h.mem;unfold Bu at hm;have HC:=qh hc;have E:=Ac w _ S;simp only at E;clear h hc;cases q0:Qxi a 0 ((cs:Int)-1)with
 |false=>
  have T:=D (Zc cs (t,a)=Bm) (by simp only[Zc,q0,Ct]);have n:=qh q0;go_enter func123,ntmps123;go_wp2_with((go_at_call 167;(with_reducible refine jX (Vq b o pc cs j a (by rw[Hy _ _ _ E];exact S)) ?_);rw[n.o]))
  go_ret;exact⟨Q2 T.o.symm,by go_grown⟩
 |true=>
  have hi:=Qj.1 q0;have A0:a.toNat<cs:=by omega
  have A6:a<(cs:Int):=by omega
  have A7:0<=a:=hi.1;obtain⟨F,G,rfl,p⟩:=Rd.elem HC a.toNat A0;have e0:Q7 cs a=cs[a.toNat]:=Qy A0;generalize cs[a.toNat]=x at *
  obtain⟨k,l,v,d,ws⟩:=x;have T:=D (Zc cs (t,a)=((t==1 && Y9 k)||(t==2 && k==13))) (by simp only[Zc,q0,Ea,e0,aK]);obtain⟨J,K,L,M,⟨U,q,r,V,X⟩,-,-,-⟩:=p.agent;have HA:=qh (p.rdv V X);simp only[Ty.sz,Bj]at U q r V X;have O:=Ac w _ U;simp only at O;have n:=qh q0;clear p q0 e0 hi;go_enter func123,ntmps123;go_upto_region 1 with fail
  refine Qp λB s=> ?_;have C:=D (w,B) (by rw[s];go_grown);have A3:=D (B,oC w.heap.size #[t,a] 40) (by rw[s];exact Bg w _);clear s;obtain⟨⟨p0,p1⟩,-⟩:=Zj A3;have y:=jC C U;have k1:=jC C q;have k2:=jC C r;have k3:=jC C V;have k4:=jC C X;have Y:=jC C S;clear U q r V X S O E;have O:=Ac B _ y;have E:=Ac B _ Y;simp only at O E;go_upto_region 3 with((go_at_call 167;(with_reducible refine jX (Vq b o _ cs j a Y) ?_);rw[n.o]))
  go_cut [5] (λu wx=>∃g,u=.pointer (R ⟨g,0,N⟩)/\Hd (wx,oC g #[k,l,v,A J d K,A L ws M] 172)/\Hd (B,wx))
  case first=>
   go_region_held3(λW=>(W,b,o,A (R (F,G)) cs j)/\(W,w.heap.size,1,a)/\(W,F,G+a.toNat * 5,k)/\(W,F,G+a.toNat * 5+1,l)/\(W,F,G+a.toNat * 5+2,v)/\(W,F,G+a.toNat * 5+3,A J d K)/\(W,F,G+a.toNat * 5+4,A L ws M)) ((refine Qv5 (w:=B) ?_ Y p1 y k1 k2 k3 k4;go_grown)) (fail)
   all_goals
    go_wp2
    go_meet;exact⟨_,rfl,Bg B _,(show Bp B B _ by go_grown)⟩
  obtain⟨g,rfl,P,A1⟩:=hcut;rename Bh=>W2
  obtain⟨g0,g1,g2,g3,g4⟩:(W2,g,0,k)/\(W2,g,1,l)/\(W2,g,2,v)/\(W2,g,3,A J d K)/\(W2,g,4,A L ws M):=⟨Q6 P rfl,Q6 P rfl,Q6 P rfl,Q6 P rfl,Q6 P rfl⟩;have c:=qh (Q0 C A1);have A2:=qh (HA.o.kb c.o);have p0:=jC A1 p0;clear p1 y k1 k2 k3 k4 Y O E;by_cases t1:t=1
  ·subst t1
   have i:=D (Zc cs (1,a)=Y9 k) (by rw[T.o];simp);cases hq:Y9 k
   all_goals
    have HK:=qh hq;go_wp2_with((go_at_call 163;(with_reducible refine jR (Q5c [k,l,v,A J d K,A L ws M] A2) λw3 H=> ?_);have p0:=jC H p0;have z:=qh (Q0 c.o H);clear H;simp only[aK];rw[HK.o]))
    go_ret;exact⟨Q2 (by show _=Zc cs (1,a);rw[i.o,HK.o]),z.o⟩
  have A4:(t==1)=Bm:=by simpa using t1
  have i:=D (Zc cs (t,a)=(t==2 && k==13)) (by rw[T.o,A4];simp);by_cases t2:t=2
  ·subst t2
   go_wp2_with((go_at_call 129;(with_reducible refine jR (Q18 [k,l,v,A J d K,A L ws M] A2) λw3 H=> ?_);have z:=qh (Q0 c.o H);clear H))
   go_ret;exact⟨Q2 (by show _=Zc cs (2,a);rw[i.o];simp[aK]),z.o⟩
  have A5:(t==2)=Bm:=by simpa using t2
  go_wp2
  go_ret;exact⟨Q2 (by show _=Zc cs (t,a);rw[i.o,A5];rfl),c.o⟩
theorem Q9b(n):(Ds (Dl #[I Z 0,I Z 0]).cells (n * 2)).toList=Ch (n * 2) (I Z 0):=by
 have B:(Dl #[I Z 0,I Z 0]).cells=#[I Z 0,I Z 0]:=by rfl
 rw[B];unfold Ds;apply List.ext_getElem
 ·simp
 grind
theorem Qe4:∀n:Nat,Qa9 Q5 (Ch n ((0:Int),(0:Int)))=Ch (n * 2) (I Z 0)
 |0=>rfl
 |n+1=>by have:=Qe4 n;rw[Hb,show(n+1) * 2=n * 2+1+1 by omega,Hb,Hb];show Qxp Q5 ((0:Int),(0:Int))++Qa9 Q5 (Ch n ((0:Int),(0:Int)))=_;rw[this];rfl
def Qau(w:Bh){T}(n)(E:n<=1000000000):Qxu Q5 T w (w.alloc (.cells (Ds (Dl #[(),()]).cells (n * 2)) T)) (A (R (w,0)) n n) (Ch n ((0:Int),(0:Int))):=by
 have h:=Qxu.of_block (t:=Q5) (e:=T) (B:=w) (xs:=Ch n ((0:Int),(0:Int))) (Bg w (.cells (Ds (Dl #[(),()]).cells (n * 2)) T)) (Aj _) rfl (by rw[Q9b,Qe4]) (λx C=>by rw[List.eq_of_mem_replicate C];exact Q4z (a:=0) (b:=0) (by unfold Qyn;omega) (by unfold Qyn;omega)) (by rw[List.length_replicate];unfold Bu;omega);grind
def Qd0(w)(n:Nat)(H:n<=1000000000):(Instr.makeSlice 151 (n:Int) (n:Int)).run prog w=.ok (A (R (w,0)) n n) (w.alloc (.cells (Ds (Dl #[(),()]).cells (n * 2)) 207)):=by
 obtain⟨B,C,E,F,G⟩:=Ck Q94;have:=run_make (P:=prog) w 151 207 B (Dl #[(),()]) underlying151 C E Z Z (n:Int) (n:Int) (by omega) (by omega) (by rw[G];omega) (by omega);rw[F]at this;simpa using this
def Q6l{w k l v}{d:List Int}{ws:List Wd}{B C}(E:Qyn k)(F:Qyn l)(G:Qyn v)(H:Rd (.slice .int) w [B] d)(J:Rd (.slice Q5) w [C] ws):Rd Q4 w [k,l,v,B,C] (k,l,v,d,ws):=
 ⟨[_],[_,_,_,_],rfl,⟨rfl,E⟩,[_],[_,_,_],rfl,⟨rfl,F⟩,[_],[_,_],rfl,⟨rfl,G⟩,[_],[_],rfl,H,J⟩
theorem Qq6{w}(vs){x:Qb}(h:Rd Q4 w vs x)(g:(aW x).length<=100000000):
  Bv prog 119 #[.agg vs.toArray] w λe w'=>e=.returned (.bool (Ze x))/\(w,w'):=by
 have H:=qh h;obtain⟨k,l,v,d,ws⟩:=x;obtain⟨K,L,O,P,rfl,⟨i,j,m⟩,⟨A2,y,n⟩,⟨A3,-,z⟩⟩:=h.agentV;have HD:=qh n;have c:=D (Qyn k/\Qyn l/\Qyn v) (⟨i,j,m⟩);clear h z n i j m;unfold Bu at y;have g:ws.length<=100000000:=g;cases q0:Y9 k with
 |true=>
  have f:=qh q0;have Y:=D (Ze (k,l,v,d,ws)=Yb (k,l,v,d,Ch (ws+1) ((0:Int),(0:Int)))) (by
   have:=Qj.1 q0;have n0:(k==0)=Bm:=by simp;omega
   have A0:(k==13)=Bm:=by simp;omega
   simp only[Ze,aK,n0,A0,q0,Ea,Bool.false_eq_true,if_false];rfl)
  clear q0;go_enter func119,ntmps119;go_upto_region 1 with fail
  refine Qp λS T=> ?_;have U:=D (w,S) (by rw[T];go_grown);obtain⟨C,E,F,G,J⟩:=Q11 w (I Z k) (I Z l) (I Z v) (A K d L) (A O ws P) 172;rw[<-T]at C E F G J;clear T;go_wp2_with((go_at_call 163;(with_reducible refine jR (Q5c [I Z k,I Z l,I Z v,A K d L,A O ws P] (H.o.kb U)) λw1 B=> ?_);have M:=qh B;clear B;simp only[aK];rw[f.o]))
  have k0:=jC M C;have k1:=jC M E;have k2:=jC M F;have k3:=jC M G;have k4:=jC M J;clear C E F G J;have o:=qh (Q0 U M);have p:(ws:Int)+1=((ws.length+1:Nat):Int):=by omega
  have q:=λW=>Qd0 W (ws+1) (by omega);have A4:∀W:Bh,(Instr.makeSlice 151 (I Z ((ws:Int)+1)) (I Z ((ws:Int)+1))).run prog W=.ok (A (R ⟨W.heap.size,0,N⟩) (ws+1) (ws+1)) (W.alloc (.cells (Ds (Dl #[(),()]).cells ((ws.length+1) * 2)) 207)):=λW=>by rw[p];exact q W
  have A5:IntKind.i64.wrap ((ws:Int)+1)=(ws:Int)+1:=by simp only[IntKind.wrap_i64];omega
  have A1:=D (∀W:Bh,Qxu Q5 207 W.heap.size (W.alloc (.cells (Ds (Dl #[(),()]).cells ((ws.length+1) * 2)) 207)) (A (R ⟨W.heap.size,0,N⟩) (ws+1) (ws+1)) (Ch (ws+1) ((0:Int),(0:Int)))) (λW=>Qau W (ws+1) (by omega));clear q p;generalize Ds (Dl #[(),()]).cells ((ws.length+1) * 2)=cur at *
  have HR:=qh (show Rd Q4 ((w1.alloc (.cells cur 207)).drew) [I Z k,I Z l,I Z v,A K d L,A (R ⟨w1,0,N⟩) (ws+1) (ws+1)] (k,l,v,d,Ch (ws+1) ((0:Int),(0:Int)))from
   Q6l c.o.1 c.o.2.1 c.o.2.2 (HD.o.kept ((Am o.o).trans (Am (show Bp w1 w1 _ by go_grown)))) (((A1.o w1).rd rfl).kb (Ai _ _).drew))
  go_region_held3(λW=>(W,w.heap.size,0,I Z k)/\(W,w.heap.size,1,I Z l)/\(W,w.heap.size,2,I Z v)/\(W,w.heap.size,3,A K d L)/\(W,w.heap.size,4,A O ws P))
   ((refine Qde (w:=w1) ?_ k0 k1 k2 k3 k4;first|with_reducible exact r.o|go_grown))
   (((go_at_call 164;(with_reducible refine jR (Qew [I Z k,I Z l,I Z v,A K d L,A (R ⟨w1,0,N⟩) (ws+1) (ws+1)] HR) λw5 B=> ?_);have r:=D (w1,w5) (Q0 (by go_grown) B);clear B)))
  all_goals
   go_wp2_with fail
   go_ret;exact⟨Q2 Y.o.symm,Q0 o.o r.o⟩
 |false=>
  have f:=qh q0;have Y:=D (Ze (k,l,v,d,ws)=(if k==0 then l==0 && ((d:Int)==0 && (ws:Int)==0)else if k==13 then l==0 && (v==0 && ((d:Int)==0 && decide ((ws:Int)<2)))else Bm)) (by show(if k==0 then _ else if k==13 then _ else Y9 k && _)=_;rw[q0];rfl);have s:decide ((ws:Int)<=1)=decide ((ws:Int)<2):=by rw[decide_eq_decide];omega
  have A6:=qh s;clear q0 s;go_enter func119,ntmps119;go_upto_region 1 with fail
  refine Qp λS T=> ?_;have U:=D (w,S) (by rw[T];go_grown);obtain⟨C,E,F,G,J⟩:=Q11 w (I Z k) (I Z l) (I Z v) (A K d L) (A O ws P) 172;rw[<-T]at C E F G J;clear T;have a:=D (∀W,Bp S S W->Rd Q4 W [I Z k,I Z l,I Z v,A K d L,A O ws P] (k,l,v,d,ws)) (λW B=>H.o.kb (Q0 U B));have b:=D (∀W,Bp S S W->(W,w.heap.size,0,I Z k)/\(W,w.heap.size,1,I Z l)/\(W,w.heap.size,2,I Z v)/\(W,w.heap.size,3,A K d L)/\(W,w.heap.size,4,A O ws P)) (λW B=>have X:=Am B;⟨X.cell _ _ C,X.cell _ _ E,X.cell _ _ F,X.cell _ _ G,X.cell _ _ J⟩);go_upto_region 3 with((go_at_call 163;(with_reducible refine jR (Q5c [I Z k,I Z l,I Z v,A K d L,A O ws P] (a.o _ (Ai _ _))) λw1 B=> ?_);have M:=qh B;clear B;simp only[aK];rw[f.o]))
  clear C E F G J;obtain⟨C,E,F,G,J⟩:=b.o _ M;by_cases t:k=13
  ·subst t
   go_wp2_with((go_at_call 129;(with_reducible refine jR (Q18 [I Z 13,I Z l,I Z v,A K d L,A O ws P] (a.o _ M)) λw2 B=> ?_);have V:=qh (Q0 M B);clear B C E F G J;obtain⟨C,E,F,G,J⟩:=b.o _ V;simp only[aK]))
   all_goals(go_ret;exact⟨Q2 (by rw[Y.o];first|(simp_all;done)|(simp_all;omega)),Q0 U V⟩)
  have A7:(k==13)=Bm:=by simpa using t
  go_wp2_with(first|((go_at_call 129;(with_reducible refine jR (Q18 [I Z k,I Z l,I Z v,A K d L,A O ws P] (a.o _ M)) λw2 B=> ?_);have V:=qh (Q0 M B);clear B C E F G J;obtain⟨C,E,F,G,J⟩:=b.o _ V;simp only[aK]))|((go_at_call 165;(with_reducible refine jR (Vt [I Z k,I Z l,I Z v,A K d L,A O ws P] (a.o _ V)) λw3 B=> ?_);have u:=qh (Q0 V B);clear B C E F G J;obtain⟨C,E,F,G,J⟩:=b.o _ u.o;simp only[aK]))|fail)
  all_goals(go_ret;exact⟨Q2 (by rw[Y.o];simp_all),Q0 U u.o⟩)
def Q99(w pb B m S)(h:Zh w pb B m S)(i:Int)(O:0<=i)(P:i<(mC m)):
  Bv prog 233 #[(pb,B),i] w λe w'=>e=.returned (.tuple #[])/\Zh w' pb B (Qd m i) (S.put i [])/\Q1 (λc=>c=pb\/c=S.cb) w w'/\Qc pb B 5 w w':=by
 have C:=qh h;obtain⟨px,cx,T,U,-,-,-,E,-,-,-⟩:=h.head;have K:=qh E;have F:i.toNat<(mC m):=by omega
 obtain⟨us,L,G,H⟩:=h.cell F;obtain⟨V,W,X,Y,a,b,rfl,-⟩:=H.agent;obtain⟨d,f,g,j,k⟩:=Q5v G;have J:=h.cells.bound;have l:=λq=>h.blk.free q;have n:=λq=>h.cells.blk.free q;obtain⟨M,o⟩:=h.ne;unfold Bu at J;obtain⟨p,r⟩:=J;have s:=h.blk.lt;have t:=h.cells.blk.lt;clear h H L G E;go_enter func233,ntmps233;go_wp2_with fail
 go_still_tail 11,(by kernel_rfl)
 go_wp2_with fail
 go_end0
 exact⟨rfl,(C.o.put5 F (by unfold Qyn;omega) (Ow.freeCell K) (by simp) (by simp)).drew,((C.o.fr5 _ _ _ _ _ _).setCell (.inl rfl) _).drew,((Qc.of_frame (Q0c _ _ _ _ _ _ _ _) M B 5).set (B+1) (by omega) _).drew⟩
def Qrg(w pb B m S)(h:Zh w pb B m S)(k l v:Int)(E F H J K L)(y:Qb)(G)(A7:0<=mF m)(hf:mF m<(mC m))(U:Ow Q4 w [k,l,v,A E H J,A F K L] y G)(V:G.Nodup)(W:∀b∈G,b∉pb::S.all):
  Bv prog 273 #[(pb,B),.agg #[k,l,v,A E H J,A F K L]] w λe w'=>e=.returned (mF m)/\Zh w' pb B (Qi m y) (S.put (mF m) G)/\Q1 (λc=>c=pb\/c=S.cb) w w'/\Qc pb B 5 w w':=by
 have HM:=qh h;have X:=qh U;have HG:=qh V;have Y:=qh W;obtain⟨px,cx,a,d,-,-,-,A2,-,-,-⟩:=h.head;have P:(mF m).toNat<(mC m):=by omega
 obtain⟨us,T,M,O⟩:=h.cell P;obtain⟨A8,A9,AA,AB,Gd,Gw,rfl,-,-,-,-,-,g⟩:=O.agent;obtain⟨j,n,p,r,s⟩:=Q5v M;have A3:=qh g;have t:=h.cells.bound;have u:=λq=>h.blk.free q;have x:=λq=>h.cells.blk.free q;obtain⟨A4,AC⟩:=h.ne;unfold Bu at t;obtain⟨AD,AE⟩:=t;have z:=h.blk.lt;have A0:=h.cells.blk.lt;clear h O T M A2 g U V W;go_enter func273,ntmps273;go_upto_region 3 with fail
 have C:=qh ((HM.o.putF (f:=aV (Q7 (mC m) (mF m))) A3).kept (Below.alloc (Ai _ _) (Aj _) (.cells #[k,l,v,A E H J,A F K L] 172)));have A1:=qh ((Zw w pb (B+1) (aV (Q7 (mC m) (mF m)))).alloc (.cells #[k,l,v,A E H J,A F K L] 172));have A5:=qh (((Qc.refl pb B 5 w).set (B+1) (by omega) (aV (Q7 (mC m) (mF m)))).fr ((Q1.refl (λ_=>False) _).alloc (.cells #[k,l,v,A E H J,A F K L] 172)) (λh=>h));obtain⟨⟨x0,x1,x2,x3,x4⟩,-⟩:=Yf (Q0h w (pb,B+1) (aV (Q7 (mC m) (mF m))) #[k,l,v,A E H J,A F K L] 172);generalize (w.setCell (pb,B+1) (aV (Q7 (mC m) (mF m)))).alloc (.cells #[k,l,v,A E H J,A F K L] 172)=W2 at *
 clear a d u x z A0 j n p r s;obtain⟨_,_,d0,d,-,-,-,-,-,-,-⟩:=C.o.head;obtain⟨us,T,M,O⟩:=C.o.cell (i:=mF m) P;obtain⟨_,_,_,_,_,_,rfl,-⟩:=O.agent;obtain⟨j,n,p,r,s⟩:=Q5v M;have u:=λq=>C.o.blk.free q;have x:=λq=>C.o.cells.blk.free q;have z:=C.o.blk.lt;have A0:=C.o.cells.blk.lt;clear O T M;have a:W2.cell? (pb,B)=R (A (R (S.cb,S.o)) (mC m) S.cap):=d0;clear d0;go_wp2_with fail
 go_still_tail 7,(by kernel_rfl)
 go_wp2
 go_ret;have A6:=X.o.frame A1 (λb hb=>⟨X.o.lt b hb,λe=>Y.o b hb (e▸Ae)⟩);exact⟨rfl,(show Zh _ _ _ (Qi m y) _ from(C.o.putCell (i:=mF m) P A6 HG Y).drew),(A1.o.mono λ_=> .inl).trans ((C.o.fr5 _ _ _ _ _ _).drew),(A5.o.fr (Q0c _ _ _ _ _ _ _ _) A4).drew⟩
def Qna(w)(a:Int):Bv prog 295 #[a] w (oR w (.agg #[I Z 2,a])):=by
 have B:=Bg w (.cells #[(),()] 40);obtain⟨⟨H,J⟩,-⟩:=Zj B;have C:=Vs B (I Z 2) a;obtain⟨⟨E,F⟩,-⟩:=Zj C;have G:=qh (Below.alloc (Ai w w) (Aj _) (.cells #[I Z 2,a] 40));go_enter func295,ntmps295;go_wp2_with fail
 refine Ce (v:=.agg #[I Z 2,a]) (by simp[results,results295,go_sem,E,F]) rfl ?_;exact⟨rfl,G.o⟩
def Q0g(w)(a:Int):Bv prog 277 #[a] w (oR w (.agg #[I Z 1,a])):=by
 have B:=Bg w (.cells #[(),()] 40);obtain⟨⟨H,J⟩,-⟩:=Zj B;have C:=Vs B (I Z 1) a;obtain⟨⟨E,F⟩,-⟩:=Zj C;have G:=qh (Below.alloc (Ai w w) (Aj _) (.cells #[I Z 1,a] 40));go_enter func277,ntmps277;go_wp2_with fail
 refine Ce (v:=.agg #[I Z 1,a]) (by simp[results,results277,go_sem,E,F]) rfl ?_;exact⟨rfl,G.o⟩
def Qk3(w pb B m S)(h:Zh w pb B m S)(U:0<=mF m)(V:mF m<(mC m)):
  Bv prog 275 #[(pb,B)] w λe w'=>e=.returned (.agg #[I Z 2,(mF m)])/\Zh w' pb B (Qi m (13,0,0,[],[])) (S.put (mF m) [])/\Q1 (λc=>c=pb\/c=S.cb) w w'/\Qc pb B 5 w w':=by
 have q:=qh h;have J:Zh (w.alloc (.cells #[(),()] 40)) pb B m S:=h.kept (by go_grown);have W:=qh J;have Y:=D (Q1 (λc=>c=pb\/c=S.cb) w (w.alloc (.cells #[(),()] 40))) ((Q1.refl _ _).alloc _);have a:=qh ((Qc.refl pb B 5 w).fr ((Q1.refl (λ_=>False) _).alloc (.cells #[(),()] 40)) (λh=>h));have K:=qh (Bg w (.cells #[(),()] 40));have G:=D (w≠pb/\w≠S.cb/\∀b∈S.all,b≠w.heap.size) (by
  have E:=h.lt;refine⟨λe=> ?_,λe=> ?_,λb F e=> ?_⟩
  ·have:=E pb Ae;omega
  ·have:=E S.cb (Aa _ Ae);omega
  have:=E b (Aa _ F);omega)
 clear h J;go_enter func275,ntmps275;go_upto_region 1 with fail
 generalize w.alloc (.cells #[(),()] 40)=W2 at *
 go_wp2_with(first|((go_at_call 273;(with_reducible refine(Qrg W2 pb B m S W 13 0 0 N N 0 0 0 0 (13,0,0,[],[]) [] U V (Ow.mkAgent (by unfold Qyn;omega) (by unfold Qyn;omega) (by unfold Qyn;omega) (Ow.nil _) (Ow.nil _)) (by simp) (by simp)).mono ?_);rintro e L ⟨rfl,E,H,M⟩;have d:=qh E;have f:=qh H;have g:=qh (a.o.trans M);clear M;have O:=(H.block w (Al.1 K).1 (by rintro(e|e);exact G.o.1 e;exact G.o.2.1 e)).trans K;have i:=qh O;clear E H O))|((go_at_call 295;(with_reducible refine jR (Qna L (mF m)) λj F=> ?_);have P:=qh (Qf i.o F);obtain⟨⟨r,s⟩,t⟩:=Zj P;have k:=qh (d.o.kept F);have T:=D (Q1 (λ_=>False) L j) (Ay F);clear F))|fail)
 have l:=Vs P (I Z 2) (mF m);obtain⟨⟨n,o⟩,-⟩:=Zj l;refine Ce (v:=.agg #[I Z 2,(mF m)]) (by simp[results,results275,go_sem,n,o]) rfl ?_;have p:w.heap.size∉pb::(S.put (mF m) []).all:=by
  intro C;rcases Aq.1 C with e|C
  ·exact G.o.1 e
  rcases Y0 C with C|C
  ·simp at C
  exact G.o.2.2 _ C rfl
 exact⟨rfl,k.o.set2 p _ _,Qel ((Y.o.trans f.o).trans (T.o.mono λ_ h=>h.elim)) (Aj _),(g.o.fr T (λh=>h)).fr (Vf (X:=λc=>c=w) (Q1.refl _ _) rfl _ _) (Ne.symm G.o.1)⟩
def Qti(w pb C m S)(h:Zh w pb C m S)(a b)(ha:Qyn a)(B:Qyn b)(M:(mX m).length<=1000000):
  Bv prog 279 #[.pointer (R ⟨pb,C,N⟩),I Z a,I Z b] w λe w'=>e=.returned (.tuple #[])/\∃Fx,Zh w' pb C (Ya m a b) {S with Fx:=Fx}/\(∀b∈Fx,b∈S.Fx\/w<=b)/\Q1 (λc=>c=pb\/c∈S.Fx) w w'/\Qc pb C 5 w w':=by
 have O:=qh h;obtain⟨px,cx,i,P⟩:=h.redexes;have T:=qh P;have j:=qh M;have k:=D (S.Fx.Nodup) ((Qxw (Ar.1 (Ar.1 h.nodup).2).2).2.1);have H:=D (pb∉S.Fx) (λe=>(Ar.1 h.nodup).1 (Aa _ (At0.2 (.inr e))));have l:=λq=>h.blk.free q;have U:=h.blk.lt;clear h P M;obtain⟨n,o,p,r,s⟩:=Ck Jj;go_enter func279,ntmps279;go_wp2_with((at_builtin;refine Q1a _ rfl (.tmp 10) (.tmp 18) 41 rfl (e:=Q5) 143 n _ 16 underlying41 o p r s rfl (by decide) (v:=A px (mX m) cx) (xs:=mX m) (y:=(min a b,max a b)) (vs:=[I Z (min a b),I Z (max a b)]) (F:=S.Fx) w 1 rfl rfl (T.o.kept λb B=>Az _ _ _ (T.o.lt b B)) k.o (Ow.word (by unfold Qyn at *;omega) (by unfold Qyn at *;omega)) (Q76 (Q6 (Bg w _) rfl) (Q6 (Bg w _) rfl)) Qni (by have:=j.o;omega) ?_;intro V W w2 J X Y d f;have g:=qh X;have t:=qh Y;have u:=qh d;have G:=qh (Q1.trans (show Q1 (λc=>c∈S.Fx) w _ from(Q1.refl _ w).alloc _) f);have x:=(G.o.cell U H (C+4)).trans i;have xf:=λq=>(G.o.frozen U H q).trans (l q);clear X Y d f))
 all_goals
  go_end0
  have K:∀b∈J,b∈S.Fx\/w<=b:=λb B=>(u.o b B).imp id λe=>by rw[e];simp
  have z:=O.o.lt;have A0:∀b∈J,b≠pb:=λb B e=>(K b B).elim (λh=>H.o (e▸h)) λh=>by omega
  have L:=Zw w2 pb (C+4) (A V ((mX m)+1) W);refine⟨rfl,J,(O.o.turnX (xs:=mX m++ [(min a b,max a b)]) (px:=V) (cx:=W) (Fx:=J) ((G.o.mono λc E=> .inr E).trans (L.mono λc E=> .inl E)) ((Qc.of_frame G H _ _).set (C+4) (by omega) _) ?_ ?_ t.o λb B=> ?_),λb B=> ?_,(G.o.mono λc E=> .inr E).trans (L.mono λc E=> .inl E),(Qc.of_frame G H C 5).set (C+4) (by omega) _⟩
  ·rw[Bo];exact Bx _ _ _ x
  ·have:=g.o.frame L λb B=>⟨g.o.lt b B,A0 b B⟩
   rw[Bo];exact this
  ·refine(K b B).imp id λh hm=> ?_
   have:=z b hm;omega
  exact K b B
def Q60{E w F S pb C a m l}(h:Qn E F pb C w m S (a::l))(k H v:Int)(J K L M O P)(y:Qb)(G)(V:Ow Q4 w [k,H,v,A J L M,A K O P] y G)(W:G.Nodup)(X:∀b∈G,b∉pb::S.all)(Y:∀b∈G,E<=b):
  Bv prog 273 #[(pb,C),.agg #[k,H,v,A J L M,A K O P]] w λe w'=>e=.returned a/\Qn E F pb C w' (Qi m y) (S.put a G) l/\Q1 (λc=>c=pb\/c=F.cb) w w':=by
 obtain⟨d,j,f⟩:=h.first y;refine(Qrg w pb C m S h.mem k H v J K L M O P y G (by omega) (by omega) V W X).mono ?_;rintro e w' ⟨rfl,U,T,g⟩;rw[d]at U⊢;rw[h.cb]at T;refine⟨rfl,⟨U,f,⟨h.fresh.1,h.fresh.2.1,h.fresh.2.2.1,λb B=> ?_⟩, ?_,h.pl,h.keep.trans g⟩,T⟩
 ·rcases Y0 B with B|B
  ·exact .inr (Y b B)
  exact h.fresh.2.2.2 b B
 exact h.fr.trans (T.mono λc i=>i.imp id Q20)
def Q7y{G w E S pb C a m l}(h:Qn G E pb C w m S (a::l)):
  Bv prog 275 #[(pb,C)] w λe w'=>e=.returned (.agg #[I Z 2,a])/\Qn G E pb C w' (Qw m) (S.put a []) l/\Q1 (λc=>c=pb\/c=E.cb) w w':=by
 obtain⟨J,O,K⟩:=h.first Z6;refine(Qk3 w pb C m S h.mem (by omega) (by omega)).mono ?_;rintro e w' ⟨rfl,H,F,L⟩;rw[J]at H⊢;rw[h.cb]at F;refine⟨rfl,⟨H,K,⟨h.fresh.1,h.fresh.2.1,h.fresh.2.2.1,λb B=> ?_⟩, ?_,h.pl,h.keep.trans L⟩,F⟩
 ·rcases Y0 B with B|B
  ·simp at B
  exact h.fresh.2.2.2 b B
 exact h.fr.trans (F.mono λc M=>M.imp id Q20)
def Qdk{G w E S pb C m l}(h:Qn G E pb C w m S l)(i:Int)(H:0<=i)(J:i<(mC m))(K:i.toNat∉l):
  Bv prog 233 #[(pb,C),i] w λe w'=>e=.returned (.tuple #[])/\Qn G E pb C w' (Qd m i) (S.put i []) (i.toNat::l)/\Q1 (λc=>c=pb\/c=E.cb) w w':=by
 refine(Q99 w pb C m S h.mem i H J).mono ?_;rintro e w' ⟨rfl,L,F,M⟩;rw[h.cb]at F;refine⟨rfl,⟨L,h.free.release H J K,⟨h.fresh.1,h.fresh.2.1,h.fresh.2.2.1,λb B=> ?_⟩, ?_,h.pl,h.keep.trans M⟩,F⟩
 ·rcases Y0 B with B|B
  ·simp at B
  exact h.fresh.2.2.2 b B
 exact h.fr.trans (F.mono λc O=>O.imp id Q20)
def Qft{E w F S pb C m l}(h:Qn E F pb C w m S l)(a b)(J:Qyn a)(K:Qyn b)(L:(mX m).length<=1000000):
  Bv prog 279 #[(pb,C),a,b] w λe w'=>e=.returned (.tuple #[])/\∃S',Qn E F pb C w' (Ya m a b) S' l/\Q4e w S S'/\Q1 (λc=>c=pb\/c∈S.Fx) w w':=by
 refine(Qti w pb C m S h.mem a b J K L).mono ?_;rintro e w' ⟨rfl,Fx,M,O,G,P⟩;have H:Q4e w S {S with Fx:=Fx}:=⟨rfl,rfl,rfl,λc B=>by
  unfold MS.all at B⊢;simp only[List.mem_cons,List.mem_append]at B⊢;rcases B with B|B|B
  ·exact .inl (.inl B)
  ·exact .inl (.inr (.inl B))
  exact(O c B).imp (λh=> .inr (.inr h)) id⟩
 refine⟨rfl, {S with Fx:=Fx},h.step M (Qd5 h.free) H (G.mono λc B=>B.imp id λe=> ?_) P,H,G⟩;unfold MS.all;simp only[List.mem_cons,List.mem_append];exact .inr (.inr e)
def Q23{a w b}{o:Nat}{v}(h:Q1 (λc=>c=b) a w):Q1 (λc=>c=b) a (w.setCell (b,o) v):=h.setCell rfl v
theorem Q6n(M:Bh)(w b o)(m:Qyb)(r:Bp M M w)(h:At Qq M b o m)(i:Int)(A9:0<=i)(s:i<(mC m))(O:(aW (Q7 (mC m) i)).length<=100000000):
  Bv prog 291 #[.pointer (R ⟨b,o,N⟩),I Z i] w λe w'=>∃(B:Option Addr) (C g:Nat),e=.returned (.agg #[I Z (aK (Q7 (mC m) i)),I Z (aL (Q7 (mC m) i)),I Z (aV (Q7 (mC m) i)),A B (aD (Q7 (mC m) i)) C,A (R ⟨g,0,N⟩) ((aW (Q7 (mC m) i))+1) ((aW (Q7 (mC m) i))+1)])/\(Qyn (aK (Q7 (mC m) i))/\Qyn (aL (Q7 (mC m) i))/\Qyn (aV (Q7 (mC m) i)))/\Rd (.slice .int) M [A B (aD (Q7 (mC m) i)) C] (aD (Q7 (mC m) i))/\Qxu Q5 207 w w' (A (R ⟨g,0,N⟩) ((aW (Q7 (mC m) i))+1) ((aW (Q7 (mC m) i))+1)) (Ch ((aW (Q7 (mC m) i))+1) ((0:Int),(0:Int)))/\(w,w'):=by
 obtain⟨cs,f,⟨rt,ra⟩,xs⟩:=m;obtain⟨pc,cc,_,_,⟨P,-,-,-,-⟩,-,⟨t,hm,u⟩,-⟩:=h.mem;have s:i<cs:=s;have V:i.toNat<cs:=by omega
 obtain⟨b1,o1,rfl,Y⟩:=Rd.elem u i.toNat V;have HV:Hd (Q7 (mC (cs,f,(rt,ra),xs)) i=cs[i.toNat]):=by show Q7 cs i=_;rw[Q7,Qy V]
 have O:(aW cs[i.toNat]).length<=100000000:=by have:(aW (Q7 cs i)).length<=100000000:=O;rwa [Q7,Qy V]at this
 generalize cs[i.toNat]=x at *
 obtain⟨k,l,v,d,ws⟩:=x;simp only[Ty.sz,Bj]at Y;have O:ws.length<=100000000:=O;obtain⟨B,C,S,T,⟨U,a,j,n,p⟩,⟨y,z,j2⟩,⟨d1,d2,hd⟩,⟨w1,w2,-⟩⟩:=Y.agent;have HD:=qh hd;have HI:=D (Qyn k/\Qyn l/\Qyn v) (⟨y,z,j2⟩);unfold Bu at hm d2;have F:=Am r;replace P:=F.cell _ _ P;replace U:=F.cell _ _ U;replace a:=F.cell _ _ a;replace j:=F.cell _ _ j;replace n:=F.cell _ _ n;replace p:=F.cell _ _ p;clear F r;clear Y h u hd y z j2;have A0:=Ac w _ P;have A1:=Ac w _ U;simp only at A0 A1;go_enter func291,ntmps291;go_upto_region 2 with fail
 refine Qp λW G=> ?_;have A6:=D (w,W) (by rw[G];go_grown);obtain⟨k0,k1,k2,k3,k4⟩:(W,w.heap.size+1,0,I Z k)/\(W,w.heap.size+1,1,I Z l)/\(W,w.heap.size+1,2,I Z v)/\(W,w.heap.size+1,3,A B d C)/\(W,w.heap.size+1,4,A S ws T):=by rw[G];have H:=(Jt w #[(),(),(),jN,jN] #[I Z k,I Z l,I Z v,A B d C,A S ws T] 153 172).2;exact⟨Q6 H rfl,Q6 H rfl,Q6 H rfl,Q6 H rfl,Q6 H rfl⟩
 have q:W.heap[w.heap.size]?=R (.cells #[(),(),(),jN,jN] 153 (0,0)):=by rw[G];exact(Jt w _ _ _ _).1
 have A7:=qh q;obtain⟨⟨r0,r1,r2,r3,r4⟩,rf⟩:=Yf q;have A2:(ws:Int)+1=((ws.length+1:Nat):Int):=by omega
 have A3:=λW=>Qd0 W (ws+1) (by omega);have AA:∀W:Bh,(Instr.makeSlice 151 (I Z ((ws:Int)+1)) (I Z ((ws:Int)+1))).run prog W=.ok (A (R ⟨W,0,N⟩) (ws+1) (ws+1)) (W.alloc (.cells (Ds (Dl #[(),()]).cells ((ws.length+1) * 2)) 207)):=λW=>by rw[A2];exact A3 W
 have AB:IntKind.i64.wrap ((ws:Int)+1)=(ws:Int)+1:=by simp only[IntKind.wrap_i64];omega
 have A8:=D (∀W:Bh,Qxu Q5 207 W (W.alloc (.cells (Ds (Dl #[(),()]).cells ((ws.length+1) * 2)) 207)) (A (R ⟨W,0,N⟩) (ws+1) (ws+1)) (Ch (ws+1) ((0:Int),(0:Int)))) (λW=>Qau W (ws+1) (by omega));have A4:=D (W.heap.size=w+2) (by rw[G];simp);have A5:w.heap.size<W:=by have:=A4.o;omega
 have K:w.heap.size+1<W.heap.size:=by have:=A4.o;omega
 have HK:=D (∀E,Q1 (λc=>c=w) W E->(E,w.heap.size+1,0,I Z k)/\(E,w.heap.size+1,1,I Z l)/\(E,w.heap.size+1,2,I Z v)/\(E,w.heap.size+1,3,A B d C)/\(E,w.heap.size+1,4,A S ws T)) (λE J=>have L:¬(w.heap.size+1=w.heap.size):=by omega
  ⟨(J.cell K L _).trans k0,(J.cell K L _).trans k1,(J.cell K L _).trans k2,(J.cell K L _).trans k3,(J.cell K L _).trans k4⟩)
 clear G A3 A2 q P U a j n p A0 A1;generalize Ds (Dl #[(),()]).cells ((ws.length+1) * 2)=cur at *
 go_region_held3(λE=>(E,w.heap.size+1,0,I Z k)/\(E,w.heap.size+1,1,I Z l)/\(E,w.heap.size+1,2,I Z v)/\(E,w.heap.size+1,3,A B d C)/\(E,w.heap.size+1,4,A S ws T))
  (((refine HK.o _ ?_);(repeat(first|with_reducible exact Q1.refl _ _|with_reducible apply Q1.drew|with_reducible apply Q1.alloc|with_reducible refine Q23 ?_)))) (first|fail)
 all_goals
  go_wp2_with fail
  have J:Q1 (λc=>c=w) W (Qg7 W w 0 (I Z k) (I Z l) (I Z v) (A B d C) (A (R ⟨W,0,N⟩) (ws+1) (ws+1))):=Q0c _ _ _ _ _ _ _ _;have hs:=Q2u A7 (I Z k) (I Z l) (I Z v) (A B d C) (A (R ⟨W,0,N⟩) (ws+1) (ws+1));have hM:=A8.o (Qg7 W w 0 (I Z k) (I Z l) (I Z v) (A B d C) (A (R ⟨W,0,N⟩) (ws+1) (ws+1)));have hz:(Qg7 W w 0 (I Z k) (I Z l) (I Z v) (A B d C) (A (R ⟨W,0,N⟩) (ws+1) (ws+1))).heap.size=W:=by simp[Qg7,Gn]
  rw[hz]at hM;have G:Bp w w ((Qg7 W w 0 (I Z k) (I Z l) (I Z v) (A B d C) (A (R ⟨W,0,N⟩) (ws+1) (ws+1))).alloc (.cells cur 207)).drew:=A6.o.trans (((J.alloc _).drew).below (Fu A5) (λc t=>Nat.le_of_eq t.symm));have H:=Z3 hs (o':=.cells cur 207);refine Ce (v:=.agg #[I Z k,I Z l,I Z v,A B d C,A (R ⟨W,0,N⟩) (ws+1) (ws+1)]) (by obtain⟨⟨s0,s1,s2,s3,s4⟩,-⟩:=Yf H;simp[results,results291,go_sem,s0,s1,s2,s3,s4]) rfl ?_;rw[HV.o];exact⟨B,C,W.heap.size,rfl,HI.o,HD.o,((hM.lo (Fu A5)).frame (X:=λ_=>False) (Q1.refl _ _).drew (λ_ _ h=>h)),G⟩
def Qvr{w}{g:Nat}{x y:Qb}{B C E F G H J K L M T}(h:w.heap[g]?=R (.cells #[B,C,E,F,G,H,J,K,L,M] T))(P:Rd Q4 w [B,C,E,F,G] x)(S:Rd Q4 w [H,J,K,L,M] y):
  Rd (.slice Q4) w [A (R (g,0)) 2 2] [x,y]:=by
 refine⟨_,rfl,.inr ⟨g,0,2,rfl,by simp,by simp[Bu],λi U=> ?_⟩⟩;match i,U with
 |0,_=>exact⟨[B,C,E,F,G],rfl,λj O=>(by match j,O with
  |0,_=>exact Q6 h rfl
  |1,_=>exact Q6 h rfl
  |2,_=>exact Q6 h rfl
  |3,_=>exact Q6 h rfl
  |4,_=>exact Q6 h rfl),P⟩
 |1,_=>exact⟨[H,J,K,L,M],rfl,λj O=>(by match j,O with
  |0,_=>exact Q6 h rfl
  |1,_=>exact Q6 h rfl
  |2,_=>exact Q6 h rfl
  |3,_=>exact Q6 h rfl
  |4,_=>exact Q6 h rfl),S⟩
def Qm3(m:Qyb)(p q:Int):List Qb:=[Zb (Q7 (mC m) p),Zb (Q7 (mC m) q)]
theorem Qql(w b o)(m:Qyb)(h:At Qq w b o m)(p q)(r:Qyl (mC m) (p,q))(y:(aW (Q7 (mC m) p)).length<=100000000)(z:(aW (Q7 (mC m) q)).length<=100000000):
  Bv prog 268 #[.pointer (R ⟨b,o,N⟩),.agg #[I Z p,I Z q]] w λe w'=>∃vs:List Value,e=.returned (.agg vs.toArray)/\Rd Jl w' vs (Qm3 m p q)/\(w,w'):=by
 have X:=qh h;have Y:=qh r.1;have a:=qh r.2;have A0:=qh y;have A1:=qh z;clear h r y z;go_enter func268,ntmps268;go_upto_region 1 with fail
 refine Qp λW J=> ?_;have P:=D (w,W) (by rw[J];go_grown);have d:=Jt w #[I Z p,I Z q] #[jN] 143 79;rw[<-J]at d;have A8:=qh d.1;have A2:=qh d.2;obtain⟨⟨k0,k1⟩,-⟩:=Zj A8;have f:=D (W.heap.size=w+2) (by rw[J];simp);have A3:w.heap.size+1<W.heap.size:=by have:=f.o;omega
 have HK:=D (∀K,Q1 (λc=>c=w+1) W K->(K,w.heap.size,0,I Z p)/\(K,w.heap.size,1,I Z q)) (λK g=>⟨(g.cell (by have:=f.o;omega) (by omega) _).trans k0,(g.cell (by have:=f.o;omega) (by omega) _).trans k1⟩);clear J d;have O:=D (Bp W W W.drew) ((Ai _ _).drew)
 go_region_held3(λK=>(K,w.heap.size,0,I Z p)/\(K,w.heap.size,1,I Z q))
  (((refine HK.o _ ?_);(repeat(first|(with_reducible first|exact s.o|exact A9.o|exact AA.o|exact Q1.refl _ _)|with_reducible apply Q1.drew|with_reducible apply Q1.alloc|with_reducible refine Q23 ?_)))) (first|((go_at_call 291;(with_reducible refine(Q6n w _ b o m (Q0 P j.o) X q a.o.1 a.o.2 A1).mono ?_);rintro e B ⟨S,T,gb,rfl,E,F,G,C⟩;have k:=qh E;have A4:=qh F;have t:=qh (G.lo (show W.heap.size<=_ from j.o.size));have u:=qh ((AB.o.lo (show W.heap.size<=_ from O.o.size)).kept C);clear E F G;have L:=trivial;have M:=qh (Q0 j.o C);have s:=D (Q1 (λc=>c=w+1) W B) (Ay M);have H:=Qf A2 M;have A5:w.heap.size+1<B.heap.size:=Ap A3 M.o.size;have r0:B.cell? ⟨w+1,0,N⟩=R (A N 0 0):=Q6 H rfl;have rf:B.frozen? ⟨w+1,0,N⟩=Bm:=Q0u.free ⟨_,H⟩ 0;have AC:=qh H;clear L C H))|((go_at_call 291;(with_reducible refine(Q6n w _ b o m (Q0 P l.o) X p Y.o.1 Y.o.2 A0).mono ?_);rintro e B ⟨U,V,ga,rfl,E,F,G,C⟩;have n:=qh E;have A6:=qh F;have u:=qh (G.lo (show W.heap.size<=_ from l.o.size));have t:=qh ((AD.o.lo (show W.heap.size<=_ from O.o.size)).kept C);clear E F G;have L:=trivial;have M:=qh (Q0 l.o C);have s:=D (Q1 (λc=>c=w+1) W B) (Ay M);have H:=Qf A2 M;have A5:w.heap.size+1<B.heap.size:=Ap A3 M.o.size;have r0:B.cell? ⟨w+1,0,N⟩=R (A N 0 0):=Q6 H rfl;have rf:B.frozen? ⟨w+1,0,N⟩=Bm:=Q0u.free ⟨_,H⟩ 0;have AC:=qh H;clear L C H))|((go_at_call 291;(with_reducible refine(Q6n w _ b o m (Q0 P O) X p Y.o.1 Y.o.2 A0).mono ?_);rintro e w1 ⟨U,V,ga,rfl,E,F,G,C⟩;have n:=qh E;have A6:=qh F;have AB:=qh G;clear E F G;have L:=trivial;have j:=qh (Q0 O C);have A9:=D (Q1 (λc=>c=w+1) W w1) (Ay j.o);clear L C))|((go_at_call 291;(with_reducible refine(Q6n w _ b o m (Q0 P O) X q a.o.1 a.o.2 A1).mono ?_);rintro e w2 ⟨S,T,gb,rfl,E,F,G,C⟩;have k:=qh E;have A4:=qh F;have AD:=qh G;clear E F G;have L:=trivial;have l:=qh (Q0 O C);have AA:=D (Q1 (λc=>c=w+1) W w2) (Ay l.o);clear L C))|fail)
 all_goals
  go_wp2_with fail
  have hS:(B.setCell ⟨w+1,0,N⟩ (A (R ⟨B,0,N⟩) 2 2)).heap.size=B:=by simp[Gn]
  have C:=Bg (B.setCell ⟨w+1,0,N⟩ (A (R ⟨B,0,N⟩) 2 2)) (.cells #[I Z (aK (Q7 (mC m) p)),I Z (aL (Q7 (mC m) p)),I Z (aV (Q7 (mC m) p)),A U (aD (Q7 (mC m) p)) V,A (R ⟨ga,0,N⟩) ((aW (Q7 (mC m) p))+1) ((aW (Q7 (mC m) p))+1),I Z (aK (Q7 (mC m) q)),I Z (aL (Q7 (mC m) q)),I Z (aV (Q7 (mC m) q)),A S (aD (Q7 (mC m) q)) T,A (R ⟨gb,0,N⟩) ((aW (Q7 (mC m) q))+1) ((aW (Q7 (mC m) q))+1)] 153);rw[hS]at C;have g:=(Q23 (o:=0) (v:=(A (R ⟨B,0,N⟩) 2 2)) s.o).alloc (.cells #[I Z (aK (Q7 (mC m) p)),I Z (aL (Q7 (mC m) p)),I Z (aV (Q7 (mC m) p)),A U (aD (Q7 (mC m) p)) V,A (R ⟨ga,0,N⟩) ((aW (Q7 (mC m) p))+1) ((aW (Q7 (mC m) p))+1),I Z (aK (Q7 (mC m) q)),I Z (aL (Q7 (mC m) q)),I Z (aV (Q7 (mC m) q)),A S (aD (Q7 (mC m) q)) T,A (R ⟨gb,0,N⟩) ((aW (Q7 (mC m) q))+1) ((aW (Q7 (mC m) q))+1)] 153);have A7:=(Q23 (o:=0) (v:=(A (R ⟨B,0,N⟩) 2 2)) (Q1.refl (λc=>c=w+1) B)).alloc (.cells #[I Z (aK (Q7 (mC m) p)),I Z (aL (Q7 (mC m) p)),I Z (aV (Q7 (mC m) p)),A U (aD (Q7 (mC m) p)) V,A (R ⟨ga,0,N⟩) ((aW (Q7 (mC m) p))+1) ((aW (Q7 (mC m) p))+1),I Z (aK (Q7 (mC m) q)),I Z (aL (Q7 (mC m) q)),I Z (aV (Q7 (mC m) q)),A S (aD (Q7 (mC m) q)) T,A (R ⟨gb,0,N⟩) ((aW (Q7 (mC m) q))+1) ((aW (Q7 (mC m) q))+1)] 153);have J:=P.o.trans (g.below (Fu (by have:=f.o;omega)) (λc hc=>by have h:c=w+1:=hc;omega));have s0:((B.setCell ⟨w+1,0,N⟩ (A (R ⟨B,0,N⟩) 2 2)).alloc (.cells #[I Z (aK (Q7 (mC m) p)),I Z (aL (Q7 (mC m) p)),I Z (aV (Q7 (mC m) p)),A U (aD (Q7 (mC m) p)) V,A (R ⟨ga,0,N⟩) ((aW (Q7 (mC m) p))+1) ((aW (Q7 (mC m) p))+1),I Z (aK (Q7 (mC m) q)),I Z (aL (Q7 (mC m) q)),I Z (aV (Q7 (mC m) q)),A S (aD (Q7 (mC m) q)) T,A (R ⟨gb,0,N⟩) ((aW (Q7 (mC m) q))+1) ((aW (Q7 (mC m) q))+1)] 153)).cell? ⟨w+1,0,N⟩=R (A (R ⟨B,0,N⟩) 2 2):=by rw[Hy _ _ _ (by rw[hS];exact A5)];exact Bx _ _ _ r0
  have hA:=u.o.frame A7 (λi x e=>by have h1:=(u.o.block i x).1;have h2:i=w+1:=e;omega);have hB:=t.o.frame A7 (λi x e=>by have h1:=(t.o.block i x).1;have h2:i=w+1:=e;omega);refine Ce (v:=.agg #[A (R ⟨B,0,N⟩) 2 2]) (by simp[results,results268,go_sem,s0]) rfl ?_;refine⟨[_],rfl, ?_,J⟩;exact Qvr C (Q6l n.o.1 n.o.2.1 n.o.2.2 (A6.o.kb J) (hA.rd rfl)) (Q6l k.o.1 k.o.2.1 k.o.2.2 (A4.o.kb J) (hB.rd rfl))
def Q07(x y:Qb):Int×Bool:=
 if Vg (aK x) (aL x) (aK y) (aL y)=2 then(if Jb (aK x) (aL x) (aK y) (aL y)=6/\aK x=10/\((aD x):Int)<=aV y then(8,Bm)else(Jb (aK x) (aL x) (aK y) (aL y),Bn))
 else(if Jb (aK x) (aL x) (aK y) (aL y)=6/\aK y=10/\((aD y):Int)<=aV x then(8,Bm)else(Jb (aK x) (aL x) (aK y) (aL y),Bm))
def Qgx(w b o)(n:List Qb)(h:At Jl w b o n)(p q:Int)(hp:(0<=p/\p<n)/\(0<=q/\q<n)):
  Bv prog 271 #[(b,o),.agg #[p,q]] w (oR w (.tuple #[I Z (Q07 (Q7 n p) (Q7 n q)).1,.bool (Q07 (Q7 n p) (Q7 n q)).2])):=by
 obtain⟨pn,cn,L,n1,n2,r⟩:=h.net;obtain⟨⟨p0,p1⟩,⟨q0,q1⟩⟩:=hp;have A2:p.toNat<n:=by omega
 have A3:q.toNat<n:=by omega
 obtain⟨B,E,rfl,s⟩:=Rd.elem r p.toNat A2;obtain⟨b2,o2,A4,t⟩:=Rd.elem r q.toNat A3;simp only[Bt,Addr.mk.injEq,and_true]at A4;obtain⟨rfl,rfl⟩:=A4;have AA:=D (Q7 n p=n[p.toNat]) (by rw[Q7,Qy A2]);have AB:=D (Q7 n q=n[q.toNat]) (by rw[Q7,Qy A3]);generalize n[p.toNat]=x at *
 generalize n[q.toNat]=y at *
 obtain⟨k,l,v,d,ws⟩:=x;obtain⟨J,l',S,d',u⟩:=y;simp only[Ty.sz,Bj]at s t;obtain⟨z,cd,pw,cw,⟨T,U,V,X,Y⟩,-,⟨-,d2,-⟩,-⟩:=s.agent;obtain⟨qd,dd,qw,dw,⟨a,c,f,i,j⟩,-,⟨-,f2,-⟩,-⟩:=t.agent;unfold Bu at n2 d2 f2;clear s t h r
 have HS:=D (∀W,Bp w w W->(W,b,o,A (R (B,E)) n cn)/\(W,B,E+p.toNat * 5,k)/\(W,B,E+p.toNat * 5+1,l)/\(W,B,E+p.toNat * 5+2,v)/\(W,B,E+p.toNat * 5+3,A z d cd)/\(W,B,E+p.toNat * 5+4,A pw ws cw)/\(W,B,E+q.toNat * 5,J)/\(W,B,E+q.toNat * 5+1,l')/\(W,B,E+q.toNat * 5+2,S)/\(W,B,E+q.toNat * 5+3,A qd d' dd)/\(W,B,E+q.toNat * 5+4,A qw u dw)) (λW M=>have H:=Am M
  ⟨H.cell _ _ L,H.cell _ _ T,H.cell _ _ U,H.cell _ _ V,H.cell _ _ X,H.cell _ _ Y,H.cell _ _ a,H.cell _ _ c,H.cell _ _ f,H.cell _ _ i,H.cell _ _ j⟩)
 have AC:=Ac w _ L;simp only at AC;clear L T U V X Y a c f i j;go_enter func271,ntmps271;go_upto_region 1 with fail
 refine Qp λW m=> ?_;have A0:=D (Bp w w W) (by rw[m];go_grown);have A1:W.heap[w.heap.size]?=R (.cells #[p,q] 143):=by rw[m];exact Bg w _
 have AF:=qh A1;obtain⟨⟨k0,k1⟩,-⟩:=Zj A1;have A5:=D (W.heap.size=w+1) (by rw[m];simp);have AD:=D (∀G,Bp W.heap.size W G->((G,w.heap.size,0,p)/\(G,w.heap.size,1,q))/\_) (λG M=>⟨⟨jC M k0,jC M k1⟩,HS.o G (Q0 A0 M)⟩);obtain⟨L,T,U,V,X,Y,a,c,f,i,j⟩:=HS.o W A0;clear m A1;go_cut [6,7] (λx y wx=>∃(K g:Nat),x=.pointer (R (K,0))/\y=.pointer (R (g,0))/\K≠g/\(W.heap.size<=K/\W.heap.size<=g)/\(wx,oC K #[k,l,v,A z d cd,A pw ws cw] 153)/\(wx,oC g #[J,l',S,A qd d' dd,A qw u dw] 153)/\(W,wx))
 case first=>
  go_region_held3(λG=>((G,w.heap.size,0,p)/\(G,w.heap.size,1,q))/\(G,b,o,A (R (B,E)) n cn)/\(G,B,E+p.toNat * 5,k)/\(G,B,E+p.toNat * 5+1,l)/\(G,B,E+p.toNat * 5+2,v)/\(G,B,E+p.toNat * 5+3,A z d cd)/\(G,B,E+p.toNat * 5+4,A pw ws cw)/\(G,B,E+q.toNat * 5,J)/\(G,B,E+q.toNat * 5+1,l')/\(G,B,E+q.toNat * 5+2,S)/\(G,B,E+q.toNat * 5+3,A qd d' dd)/\(G,B,E+q.toNat * 5+4,A qw u dw))
   (((refine AD.o _ ?_);go_grown)) (first|fail)
  all_goals(go_wp2;go_meet)
  ·exact⟨_,_,rfl,rfl,by omega,⟨by omega,by omega⟩,(Jt W _ _ _ _).1,(Jt W _ _ _ _).2,by go_grown⟩
  exact⟨_,_,rfl,rfl,by omega,⟨by omega,by omega⟩,(Jt W _ _ _ _).2,(Jt W _ _ _ _).1,by go_grown⟩
 obtain⟨K,g,rfl,rfl,AG,⟨AH,AI⟩,hx,hy,A6⟩:=hcut;have HB:=qh A6;have HX:=qh hx;have HY:=qh hy;obtain⟨⟨x0,x1,x2,x3,x4⟩,xf⟩:=Yf hx;obtain⟨⟨y0,y1,y2,y3,y4⟩,yf⟩:=Yf hy;clear hx hy A6;obtain⟨C,hC⟩:∃C,Jb k l J l'=C:=⟨_,rfl⟩;obtain⟨F,hF⟩:∃F,Vg k l J l'=F:=⟨_,rfl⟩;have A7:=qh hC;have A8:=qh hF;have HV:=D (Q07 (Q7 n p) (Q7 n q)=(if F=2 then(if C=6/\k=10/\(d:Int)<=S then(8,Bm)else(C,Bn))else(if C=6/\J=10/\(d':Int)<=v then(8,Bm)else(C,Bm)))) (by rw[AA.o,AB.o,<-hC,<-hF];rfl);clear hC hF L T U V X Y a c f i j k0 k1;have A9:=qh (Q0 A0 HB);have O:w<=K:=by have:=A5.o;omega
 have P:w<=g:=by have:=A5.o;omega
 by_cases AE:F=2
 ·subst AE
  go_wp2_with((go_at_call 293;(with_reducible refine jX (Qgo k l J l') ?_);rw[A7.o,A8.o]))
  all_goals
   go_ret2
   refine⟨?_, ?_⟩
   ·rw[HV.o];simp_all<;>first|omega|(rw[if_neg (by omega)];exact⟨rfl,rfl⟩)
   exact((((((((((A9.o.setCell O _).setCell O _).setCell O _).setCell O _).setCell O _).setCell P _).setCell P _).setCell P _).setCell P _).setCell P _)
 go_wp2_with((go_at_call 293;(with_reducible refine jX (Qgo k l J l') ?_);rw[A7.o,A8.o]))
 all_goals
  go_ret2
  refine⟨?_,A9.o⟩;rw[HV.o];simp_all<;>first|omega|(rw[if_neg (by omega)];exact⟨rfl,rfl⟩)
theorem Qwa{ka la lb}(h:Vl ka la 10 lb=6):ka=9:=by
 grind[Vl]
theorem Qpz(lb ka la)(h:ka≠1):Vl 10 lb ka la=0:=by simp[Vl]
theorem Ql9(la lb):Vl 9 la 10 lb=6:=by simp[Vl]
def Qpf{x y}(B:Zm (aK x) (aL x)=Bn)(C:Zm (aK y) (aL y)=Bn):(Q07 x y).1=Q2j x y/\((Q07 x y).1≠8->(Q07 x y).2=decide (Vg (aK x) (aL x) (aK y) (aL y)=2)):=by
 unfold Q07 Q2j;generalize aK x=k at *
 generalize aK y=k' at *
 generalize aL x=l at *
 generalize aL y=l' at *
 generalize aV x=v;generalize aV y=v';generalize ((aD x):Int)=dl;generalize ((aD y):Int)=el;by_cases E:k=9/\k'=10
 ·grind[Q66,Vg,Ql9,Jb]
 by_cases F:k=10/\k'=9
 ·grind[Q66,Vg,Ql9,Qpz,Jb]
 have G:(k==9 && (k'==10 && decide (el<=v)))=Bm:=by grind
 have H:(k==10 && (k'==9 && decide (dl<=v')))=Bm:=by grind
 grind[Vg,Jb,Qwa]
def Qav{w}(b o)(m:Qyb)(h:At Qq w b o m)(S:(Z8 m).length<=100000000):
  Bv prog 121 #[(b,o)] w λe w'=>∃v,e=.returned v/\Qxu Q5 40 w w' v (Z8 m)/\(w,w'):=by
 obtain⟨cs,f,⟨B,C⟩,xs⟩:=m;obtain⟨pc,cc,_,_,⟨c0,-,c2,c3,-⟩,⟨-,T,U⟩,⟨hc,hm,V⟩,-⟩:=h.mem;unfold Bu at hm;have HC:=qh V;have W:=D (((B,C)::cs.flatMap aW).length<=100000000) (S);have HI:=qh (And.intro T U);have A0:=Ac w _ c0;simp only at A0;clear V h S T U;obtain⟨i0,A1,A2,A3,A4⟩:=Ck Q0a;go_enter func121,ntmps121;go_wp2_with fail
 have X:=qh (Qxu.of_block (t:=Q5) (xs:=[(B,C)]) (Bg w (.cells #[B,C] 40)) (Aj _) rfl rfl (λx G=>by have:x=(B,C):=Bb.1 G;rw[this];exact HI.o) (by simp[Bu]));go_loopw [3,16] (λu i wr=>∃(j:Nat),j<=cs/\i=I Z j/\Hd (Qxu Q5 40 w wr u ((B,C)::(cs.take j).flatMap aW))/\Hd (w,wr)) (λ_ i _=>cs.length-(By i).toNat);case atStart=>exact⟨0,Ak _,rfl,X.o,(show Bp w w _ by go_grown)⟩
 obtain⟨j,hj,rfl,E,H⟩:=hrel;clear X c2 c3;obtain⟨P,J⟩:∃P:List (Int×Int),P=(B,C)::(cs.take j).flatMap aW:=⟨_,rfl⟩;rw[<-J]at E;have K:=qh J;have HL:=D (P.length<=100000000) (by rw[J];have:=Zp (f:=aW) cs j;have:=W.o;simp only[Br]at *;omega);clear J;obtain⟨pu,cu,rfl,AB,AC⟩:=E.o.form;by_cases Y:j<cs
 ·obtain⟨b1,o1,rfl,L⟩:=Rd.elem (HC.o.kb H) j Y
  generalize G:cs[j]=x at L;obtain⟨k,l,v,d,ws⟩:=x;have HX:=qh G;clear G;obtain⟨pd,cd,pw,cw,⟨M,a,c,g,n⟩,-,-,⟨w1,w2,p⟩⟩:=L.agent;simp only[Ty.sz,Bj]at M a c g n;have HW:=qh p;clear p L;have q:=D ((cs.take (j+1)).flatMap aW=(cs.take j).flatMap aW++ws) (by rw[Zz Y,HX.o];rfl);have A5:=D (P.length+ws.length<=100000000) (by have:=Zp (f:=aW) cs (j+1);have h2:=W.o;rw[q.o]at this;rw[K.o];simp only[Br,Bo]at *;omega);have A6:w.heap.size<=wr:=H.o.size;have A7:=Ac wr _ M;simp only at A7;go_upto_region 5 with fail
  refine Qp λr O=> ?_;have F:=D (wr,r) (by rw[O];go_grown);obtain⟨g0,g1,g2,g3,g4⟩:=Q11 wr k l v (A pd d cd) (A pw ws cw) 172;rw[<-O]at g0 g1 g2 g3 g4;clear O M a c g n;have s:w.heap.size<=r:=Au A6 F.o.size;go_wp2_with(at_builtin;refine Ql _ rfl (.tmp 20) (.tmp 22) 121 rfl (t:=Q5) (v:=A pu P cu) (xs:=P) (ys:=ws) rfl (by decide) w 40 i0 _ 16 underlying121 A1 A2 A3 A4 rfl (by decide) rfl rfl (E.o.kept F) (HW.o.kb F) (by have:=A5.o;omega) s ?_;intro v1 w1 y z;have A8:=qh z;have A9:=qh y;clear y z)
  go_roundw;case rel=>exact⟨j+1,by omega,by go_num,A9.o.eqL (by rw[K.o,q.o];rfl),(E.o.kept F).grew (Q0 H F) s A8⟩
  simp[By];omega
 have AA:cs<=j:=by omega
 go_wp2
 go_ret;refine⟨_,rfl,E.o.eqL ?_,H.o⟩;rw[K.o,Ao AA];rfl
def Rd.workerV{w vs}{H J:Int}{xs:List Wd}{B:List Qy3}{cs:List Int}(h:Rd Qh w vs (H,J,xs,B,cs)):
  ∃(px:Option Addr) (cx:Nat) (F:Option Addr) (C:Nat) (G:Option Addr) (E:Nat),vs=[I Z H,I Z J,A px xs cx,A F B C,A G cs E]/\(Qyn H/\Qyn J)/\
   (xs<=cx/\xs<=Bu/\Rd (.slice Q5) w [A px xs cx] xs)/\(B<=C/\B<=Bu/\Rd (.slice Z7) w [A F B C] B)/\(cs<=E/\cs<=Bu/\Rd (.slice .int) w [A G cs E] cs):=by
 obtain⟨_,_,rfl,⟨rfl,O⟩,_,_,rfl,⟨rfl,P⟩,_,_,rfl,K,_,_,rfl,L,M⟩:=h;obtain⟨px,cx,rfl,S,T,K⟩:=Jh K;obtain⟨F,C,rfl,U,V,L⟩:=Jh L;obtain⟨G,E,rfl,W,X,M⟩:=Jh M;exact⟨px,cx,F,C,G,E,rfl,⟨O,P⟩,⟨S,T,K⟩,⟨U,V,L⟩,⟨W,X,M⟩⟩
def At.rdvW{w b o}{C E:Int}{xs:List Wd}{B:List Qy3}{cs:List Int}{px J K cx L M}(h:At Qh w b o (C,E,xs,B,cs))(F:w.cell? ⟨b,o+2,N⟩=R (A px xs cx))(G:w.cell? ⟨b,o+3,N⟩=R (A J B L))(H:w.cell? ⟨b,o+4,N⟩=R (A K cs M)):
  Rd Qh w [I Z C,I Z E,A px xs cx,A J B L,A K cs M] (C,E,xs,B,cs):=by
 obtain⟨us,U,r,O⟩:=h;obtain⟨V,W,X,Y,a,c,rfl,-⟩:=O.workerV;obtain⟨-,-,P,S,T⟩:=Q5v r;rw[P]at F;rw[S]at G;rw[T]at H;simp only[Bt]at F G H;rw[<-F,<-G,<-H];exact O
def Qno{w}(b o){p:Ye}(h:At Qv w b o p)(O:(Qr (pW p)).length<=100000000):
  Bv prog 71 #[(b,o)] w λe w'=>∃v,e=.returned v/\Qxu Q5 143 w w' v (Qr (pW p))/\(w,w'):=by
 obtain⟨m,C,ac⟩:=p;obtain⟨-,AA,AB,⟨q,-⟩,-,⟨hc,r,S⟩⟩:=h.pool;unfold Bu at r;have s:=qh S;have T:=D ((C.flatMap wX).length<=100000000) (O);have y:=Ac w _ q;simp only at y;clear S h O;obtain⟨z,A0,A1,A2,A3⟩:=Ck Jj;go_enter func71,ntmps71;go_wp2_with fail
 have U:=qh (Qxu.nil (t:=Q5) (e:=143) (B:=w) (w:=w));go_loopw [3,11] (λu i wr=>∃(j:Nat),j<=C/\i=I Z j/\Hd (Qxu Q5 143 w wr u ((C.take j).flatMap wX))/\Hd (w,wr)) (λ_ i _=>C.length-(By i).toNat);case atStart=>exact⟨0,Ak _,rfl,U.o,Ai _ _⟩
 obtain⟨j,hj,rfl,E,G⟩:=hrel;clear U;obtain⟨P,H⟩:∃P:List (Int×Int),P=(C.take j).flatMap wX:=⟨_,rfl⟩;rw[<-H]at E;have J:=qh H;have HL:=D (P.length<=100000000) (by rw[H];have:=Zp (f:=wX) C j;have:=T.o;omega);clear H;obtain⟨pu,cu,rfl,AC,AD⟩:=E.o.form;by_cases V:j<C
 ·obtain⟨b1,o1,rfl,K⟩:=Rd.elem (s.o.kb G) j V
  generalize hx:C[j]=x at K;obtain⟨ph,vi,xs,ls,cs⟩:=x;have HX:=qh hx;clear hx;obtain⟨px,cx,pl,cl,pc,cc,⟨L,W,X,Y,a⟩,-,⟨w1,w2,c⟩,-,-⟩:=K.worker;simp only[Ty.sz,Bj]at L W X Y a;have HW:=qh c;clear c K;have d:=D ((C.take (j+1)).flatMap wX=(C.take j).flatMap wX++xs) (by rw[Zz V,HX.o];rfl);have A4:=D (P.length+xs.length<=100000000) (by have:=Zp (f:=wX) C (j+1);have h2:=T.o;rw[d.o]at this;rw[J.o];simp only[Bo]at *;omega);have A5:w.heap.size<=wr:=G.o.size;have A6:=Ac wr _ L;simp only at A6;go_upto_region 5 with fail
  refine Qp λg M=> ?_;have F:=D (wr,g) (by rw[M];go_grown);obtain⟨g0,g1,g2,g3,g4⟩:=Q11 wr ph vi (A px xs cx) (A pl ls cl) (A pc cs cc) 116;rw[<-M]at g0 g1 g2 g3 g4;clear M L W X Y a;have k:w.heap.size<=g:=Au A5 F.o.size;go_wp2_with(at_builtin;refine Ql _ rfl (.tmp 15) (.tmp 17) 41 rfl (t:=Q5) (v:=A pu P cu) (xs:=P) (ys:=xs) rfl (by decide) w 143 z _ 16 underlying41 A0 A1 A2 A3 rfl (by decide) rfl rfl (E.o.kept F) (HW.o.kb F) (by have:=A4.o;omega) k ?_;intro v1 w1 l n;have A7:=qh n;have A8:=qh l;clear l n)
  go_roundw;case rel=>exact⟨j+1,by omega,by go_num,A8.o.eqL (by rw[J.o,d.o]),(E.o.kept F).grew (Q0 G F) k A7⟩
  simp[By];omega
 have A9:C<=j:=by omega
 go_wp2
 go_ret;refine⟨_,rfl,E.o.eqL ?_,G.o⟩;rw[J.o,Ao A9];rfl
theorem Qus{w}(b o){p:Ye}(h:At Qv w b o p)(s:(Jd (pW p)).length<=100000000):
  Bv prog 73 #[(b,o)] w λe w'=>∃v,e=.returned v/\Qxu Q5 40 w w' v (Jd (pW p))/\(w,w'):=by
 obtain⟨m,C,ac⟩:=p;obtain⟨-,AO,AP,⟨c0,-⟩,-,⟨hc,hm,z⟩⟩:=h.pool;unfold Bu at hm;have HC:=qh z;have HZ:=D ((C.flatMap λw=>(wL w).flatMap lw).length<=100000000) (s);have AB:=Ac w _ c0;simp only at AB;clear z h s;obtain⟨i0,AC,AD,AE,AF⟩:=Ck Q0a;go_enter func73,ntmps73;go_wp2_with fail
 have A0:=qh (Qxu.nil (t:=Q5) (e:=40) (B:=w) (w:=w));go_loopw [3,13] (λu i wr=>∃(j:Nat),j<=C/\i=I Z j/\Hd (Qxu Q5 40 w wr u ((C.take j).flatMap λw=>(wL w).flatMap lw))/\Hd (w,wr)) (λ_ i _=>C.length-(By i).toNat);case atStart=>exact⟨0,Ak _,rfl,A0.o,Ai _ _⟩
 obtain⟨j,hj,rfl,d,L⟩:=hrel;clear A0;rename Bh=>wo
 by_cases A1:j<C
 ·obtain⟨b1,o1,rfl,g⟩:=Rd.elem HC j A1
  generalize S:C[j]=x at g;obtain⟨ph,vi,xs,E,cs⟩:=x;have HX:=qh S;clear S;obtain⟨px,cx,pl,cl,pc,cc,⟨M,T,U,V,W⟩,-,-,⟨w1,w2,hw⟩,-⟩:=g.worker;simp only[Ty.sz,Bj]at M T U V W;unfold Bu at w2;have HW:=qh hw;clear hw g;have HS:=D (((C.take (j+1)).flatMap λw=>(wL w).flatMap lw)=((C.take j).flatMap λw=>(wL w).flatMap lw)++E.flatMap lw) (by rw[Zz A1,HX.o];rfl);have AG:=D (((C.take j).flatMap λw=>(wL w).flatMap lw).length+(E.flatMap lw).length<=100000000) (by have:=Zp (f:=λw=>(wL w).flatMap lw) C (j+1);have h2:=HZ.o;rw[HS.o]at this;simp only[Bo]at *;omega);have M:=jC L M;have T:=jC L T;have U:=jC L U;have V:=jC L V;have W:=jC L W;have AH:=Ac wo _ M;simp only at AH;go_upto_region 6 with fail
  refine Qp λW1 A2=> ?_;have l:=D (wo,W1) (by rw[A2];go_grown);clear A2 M T U V W;have X:=qh (d.o.kept l.o);have A3:=qh (Q0 L l.o);clear d;go_loopw [3,20] (λu i wr=>∃(k:Nat),k<=E/\i=I Z k/\Hd (Qxu Q5 40 w wr u (((C.take j).flatMap λw=>(wL w).flatMap lw)++(E.take k).flatMap lw))/\Hd (w,wr)) (λ_ i _=>E.length-(By i).toNat);case atStart=>exact⟨0,Ak _,rfl,(show Qxu _ _ _ _ _ _ by have:=X.o;simpa using this),A3.o⟩
  obtain⟨k,hk,rfl,O,Y⟩:=hrel;clear X A3 l L;by_cases A4:k<E
  ·obtain⟨b2,o2,rfl,n⟩:=Rd.elem (HW.o.kb Y) k A4
   generalize hy:E[k]=y at n;obtain⟨⟨G,H⟩,⟨J,K⟩⟩:=y;have HY:=qh hy;clear hy;obtain⟨⟨q,l1,l2,l3⟩,j0,j1,j2,j3⟩:=n.link;simp only[Ty.sz,Bj]at q l1 l2 l3;have HF:=qh (And.intro (And.intro j0 j1) (And.intro j2 j3));clear n j0 j1 j2 j3;obtain⟨P,a⟩:∃P:List (Int×Int),P=((C.take j).flatMap λw=>(wL w).flatMap lw)++(E.take k).flatMap lw:=⟨_,rfl⟩;rw[<-a]at O;have HP:=qh a;have A5:=D ((E.take (k+1)).flatMap lw=(E.take k).flatMap lw++ [(G,H),(J,K)]) (by rw[Zz A4,HY.o]);have HL:=D (P.length+([(G,H),(J,K)]:List Wd).length<=1000000000) (by rw[a];have:=Zp (f:=lw) E (k+1);rw[A5.o]at this;have:=AG.o;simp only[Bo,Br,List.length_nil]at *;omega);clear a;obtain⟨pu,cu,rfl,AQ,AR⟩:=O.o.form;have A6:=Ac wr _ q;simp only at A6;go_upto_region 8 with fail
   refine Qp λF r=> ?_;have AI:=D (wr,F) (by rw[r];go_grown);obtain⟨g0,g1,g2,g3⟩:(F,wr.heap.size,0,G)/\(F,wr.heap.size,1,H)/\(F,wr.heap.size,2,J)/\(F,wr.heap.size,3,K):=by rw[r];have h:=Bg wr (.cells #[G,H,J,K] 146);exact⟨Q6 h rfl,Q6 h rfl,Q6 h rfl,Q6 h rfl⟩
   clear r q l1 l2 l3 A6;have AJ:=D (Bp F F (F.alloc (.cells #[G,H,J,K] 40))) (by go_grown)
   have AK:=qh (show Rd (.slice Q5) (F.alloc (.cells #[G,H,J,K] 40)) [A (R (F,0)) 2 2] [(G,H),(J,K)]from
    (Qxu.of_block (t:=Q5) (xs:=[(G,H),(J,K)]) (Bg F _) (Aj _) rfl rfl (λx S=>by
     rcases Aq.1 S with h|h
     ·rw[h];exact HF.o.1
     rw[Bb.1 h];exact HF.o.2) (by simp[Bu])).rd rfl)
   have c:=qh (Q0 AI AJ);have A7:w.heap.size<=(F.alloc (.cells #[G,H,J,K] 40)).heap.size:=Au Y.o.size c.o.size;go_wp2_with(at_builtin;refine Ql _ rfl (.tmp 24) (.tmp 29) 121 rfl (t:=Q5) (v:=A pu P cu) (xs:=P) (ys:=[(G,H),(J,K)]) rfl (by decide) w 40 i0 _ 16 underlying121 AC AD AE AF rfl (by decide) rfl rfl (O.o.kept c.o) AK HL A7 ?_;intro v1 w1 A8 A9;have AL:=qh A9;have X:=qh A8;clear A8 A9)
   go_roundw;case rel=>exact⟨k+1,by omega,by go_num,(show Qxu _ _ _ _ _ _ from X.o.eqL (by rw[HP.o,A5.o,List.append_assoc])),(O.o.kept c.o).grew (Q0 Y c.o) A7 AL⟩
   simp[By];omega
  have AA:k=E:=by omega
  have AM:=qh AA;clear AA;go_wp2
  go_roundw;case rel=>exact⟨j+1,by omega,by go_num,(show Qxu _ _ _ _ _ _ from O.o.eqL (by rw[HS.o,AM.o,List.take_length])),Y.o⟩
  simp[By];omega
 have AN:C<=j:=by omega
 go_wp2
 go_ret;refine⟨_,rfl,d.o.eqL ?_,L.o⟩;rw[Ao AN];rfl
theorem Qnb{w}(b o)(m:Qyb)(h:At Qq w b o m)(x y:Int):
  Bv prog 126 #[(b,o),.agg #[x,y]] w (oR w (Zn (mC m) (x,y))):=by
 obtain⟨cs,f,⟨rt,ra⟩,xs⟩:=m;obtain⟨pc,cc,px,cx,⟨m0,-,-,-,-⟩,-,⟨-,hm,hc⟩,-⟩:=h.mem;unfold Bu at hm;have HC:=qh hc;clear h hc;show Bv _ _ _ _ λe w'=>e=.returned (Zn cs (x,y))/\(w,w');have A7:∃E,E=w.alloc (.cells #[x,y] 143):=⟨_,rfl⟩;obtain⟨E,U⟩:=A7;have H:=D (Bp w w E) (by rw[U];go_grown);have A8:=D (E,oC w.heap.size #[x,y] 143) (by rw[U];exact Bg w _);have O:=qh U;clear U;obtain⟨⟨p0,V⟩,-⟩:=Zj A8;have F:=jC H m0;clear m0;by_cases q0:x<y;rotate_left
 ·have b0:decide (x<y)=Bm:=by simpa using q0
  have J:=D (Zn cs (x,y)=Bm) (by have:Qxi x 0 (y-1)=Bm:=Q13.2 (by omega);simp only[Zn,this,Ct,Ej]);go_enter func126,ntmps126;go_upto_region 1 with fail
  rw[<-O.o];go_quiet(fail)
  go_wp2;go_ret;exact⟨Q2 J.o.symm,Q8 H _⟩
 have b0:decide (x<y)=Bn:=by simpa using q0
 cases q1:Qxi x 0 ((cs:Int)-1)with
 |false=>
  have J:=D (Zn cs (x,y)=Bm) (by
   have g:=Q13.1 q1;cases L:Qxi y 1 ((cs:Int)-1)with
   |false=>simp only[Zn,L,Ct]
   |true=>have L:=Qj.1 L;have:Qxi x 0 (y-1)=Bm:=Q13.2 (by omega);simp only[Zn,this,Ct,Ej])
  have M:=qh q1;go_enter func126,ntmps126;go_upto_region 1 with fail
  rw[<-O.o];(refine Z9 (λw'=>(E,w')) (by kernel_rfl) (by kernel_rfl) (Ai _ _).drew ?_;(repeat(first|go_big_quiet_skip|(go_big_quiet_want;apply Ee;refine⟨λw' B=> ?_, ?_⟩;(focus(have i:=jC B p0;have j:=jC B V;have n:=jC B F;go_simp;first|done|with_reducible rfl|(((with_reducible refine(Vq _ _ _ _ _ _ (jC B F)).mono ?_);exact λe G ⟨C,hw⟩=>⟨by rw[C,M.o],hw▸B⟩))));simp only[Act.put,Cn,Cv,Cx];go_big_quiet_on)));refine Ek ?_;intro p K)
  go_wp2;go_ret;exact⟨Q2 J.o.symm,Q0 H K⟩
 |true=>
 cases q2:Qxi y 0 ((cs:Int)-1)with
 |false=>
  have J:=D (Zn cs (x,y)=Bm) (by have g:=Q13.1 q2;have L:=Qj.1 q1;have:Qxi y 1 ((cs:Int)-1)=Bm:=Q13.2 (by omega);simp only[Zn,this,Ct]);have M:=qh q1;have W:=qh q2;go_enter func126,ntmps126;go_upto_region 1 with fail
  rw[<-O.o];(refine Z9 (λw'=>(E,w')) (by kernel_rfl) (by kernel_rfl) (Ai _ _).drew ?_;(repeat(first|go_big_quiet_skip|(go_big_quiet_want;apply Ee;refine⟨λw' B=> ?_, ?_⟩;(focus(have i:=jC B p0;have j:=jC B V;have n:=jC B F;go_simp;first|done|with_reducible rfl|(first|((with_reducible refine(Vq _ _ _ _ _ x (jC B F)).mono ?_);exact λe G ⟨C,hw⟩=>⟨by rw[C,M.o],hw▸B⟩)|((with_reducible refine(Vq _ _ _ _ _ y (jC B F)).mono ?_);exact λe G ⟨C,hw⟩=>⟨by rw[C,W.o],hw▸B⟩))));simp only[Act.put,Cn,Cv,Cx];go_big_quiet_on)));refine Ek ?_;intro p K)
  go_wp2;go_ret;exact⟨Q2 J.o.symm,Q0 H K⟩
 |true=>
  have i1:=Qj.1 q1;have i2:=Qj.1 q2;have A3:x.toNat<cs:=by omega
  have A4:y.toNat<cs:=by omega
  have AO:0<=x:=i1.1;have AP:0<=y:=i2.1;have AQ:x<(cs:Int):=by omega
  have AR:y<(cs:Int):=by omega
  obtain⟨b1,o1,rfl,P⟩:=Rd.elem HC x.toNat A3;obtain⟨b2,o2,A5,S⟩:=Rd.elem HC y.toNat A4;simp only[Bt,Addr.mk.injEq,and_true]at A5;obtain⟨rfl,rfl⟩:=A5;have e1:Q7 cs x=cs[x.toNat]:=Qy A3;have e2:Q7 cs y=cs[y.toNat]:=Qy A4;have J:=D (Zn cs (x,y)=(Y9 (aK cs[x.toNat]) && Y9 (aK cs[y.toNat]))) (by have g:Qxi y 1 ((cs:Int)-1)=Bn:=Qj.2 (by omega);have L:Qxi x 0 (y-1)=Bn:=Qj.2 (by omega);simp only[Zn,g,L,Ea,e1,e2]);clear e1 e2;have P:=P.kb H;have S:=S.kb H;generalize cs[x.toNat]=u at *
  generalize cs[y.toNat]=v at *
  obtain⟨k,l,z,d,ws⟩:=u;obtain⟨q,l',z',d',A9⟩:=v;obtain⟨pd,cd,pw,cw,⟨r,s,t,X,Y⟩,-,-,-⟩:=P.agent;obtain⟨AA,AB,AC,AD,⟨A0,A1,A2,a,c⟩,-,-,-⟩:=S.agent;have HA:=qh (P.rdv X Y);have HE:=qh (S.rdv a c);simp only[Ty.sz,Bj]at r s t X Y A0 A1 A2 a c;have M:=qh q1;have W:=qh q2;clear P S q1 q2 i1 i2;cases r1:Y9 k with
  |false=>
   have T:=qh r1;go_enter func126,ntmps126;go_upto_region 1 with fail
   rw[<-O.o];(refine Z9 (λw'=>(E,w')) (by kernel_rfl) (by kernel_rfl) (Ai _ _).drew ?_;(repeat(first|go_big_quiet_skip|(go_big_quiet_want;apply Ee;refine⟨λw' B=> ?_, ?_⟩;(focus(have i:=jC B p0;have j:=jC B V;have n:=jC B F;have AE:=jC B r;have AF:=jC B s;have AG:=jC B t;have AH:=jC B X;have AI:=jC B Y;have AJ:=jC B A0;have AK:=jC B A1;have AL:=jC B A2;have AM:=jC B a;have AN:=jC B c;go_simp;first|done|with_reducible rfl|(first|((with_reducible refine(Vq _ _ _ _ _ x (jC B F)).mono ?_);exact λe G ⟨C,hw⟩=>⟨by rw[C,M.o],hw▸B⟩)|((with_reducible refine(Vq _ _ _ _ _ y (jC B F)).mono ?_);exact λe G ⟨C,hw⟩=>⟨by rw[C,W.o],hw▸B⟩)|((with_reducible refine(Q5c [k,l,z,A pd d cd,A pw ws cw] (HA.o.kb B)).mono ?_);exact λe G ⟨C,hb⟩=>⟨C.trans (by show Ending.returned (Value.bool (Y9 k))=_;rw[T.o]),Q0 B hb⟩))));simp only[Act.put,Cn,Cv,Cx];go_big_quiet_on)));refine Ek ?_;intro p K)
   go_wp2;go_ret;exact⟨Q2 (by rw[J.o];simp only[aK];rw[T.o];rfl),Q0 H K⟩
  |true=>
   have T:=qh r1;cases r2:Y9 q
   all_goals
    have A6:=qh r2;go_enter func126,ntmps126;go_upto_region 1 with fail
    rw[<-O.o];(refine Z9 (λw'=>(E,w')) (by kernel_rfl) (by kernel_rfl) (Ai _ _).drew ?_;(repeat(first|go_big_quiet_skip|(go_big_quiet_want;apply Ee;refine⟨λw' B=> ?_, ?_⟩;(focus(have i:=jC B p0;have j:=jC B V;have n:=jC B F;have AE:=jC B r;have AF:=jC B s;have AG:=jC B t;have AH:=jC B X;have AI:=jC B Y;have AJ:=jC B A0;have AK:=jC B A1;have AL:=jC B A2;have AM:=jC B a;have AN:=jC B c;go_simp;first|done|with_reducible rfl|(first|((with_reducible refine(Vq _ _ _ _ _ x (jC B F)).mono ?_);exact λe G ⟨C,hw⟩=>⟨by rw[C,M.o],hw▸B⟩)|((with_reducible refine(Vq _ _ _ _ _ y (jC B F)).mono ?_);exact λe G ⟨C,hw⟩=>⟨by rw[C,W.o],hw▸B⟩)|((with_reducible refine(Q5c [k,l,z,A pd d cd,A pw ws cw] (HA.o.kb B)).mono ?_);exact λe G ⟨C,hb⟩=>⟨C.trans (by show Ending.returned (Value.bool (Y9 k))=_;rw[T.o]),Q0 B hb⟩)|((with_reducible refine(Q5c [q,l',z',A AA d' AB,A AC A9 AD] (HE.o.kb B)).mono ?_);exact λe G ⟨C,hb⟩=>⟨C.trans (by show Ending.returned (Value.bool (Y9 q))=_;rw[A6.o]),Q0 B hb⟩))));simp only[Act.put,Cn,Cv,Cx];go_big_quiet_on)));refine Ek ?_;intro p K)
    go_wp2;go_ret;exact⟨Q2 (by rw[J.o];simp only[aK];rw[T.o,A6.o];rfl),Q0 H K⟩
end Go.Proofs.YtcjngpfigpglfaaGreatDoor
