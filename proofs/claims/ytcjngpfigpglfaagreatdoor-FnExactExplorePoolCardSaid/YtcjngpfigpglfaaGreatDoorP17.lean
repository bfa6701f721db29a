import Derived.Test.YtcjngpfigpglfaaGreatDoorP16
set_option maxHeartbeats 0
set_option maxRecDepth 100000
set_option linter.all false
namespace Go.Proofs.YtcjngpfigpglfaaGreatDoor
open Go.RowKit Go.Proofs.Tryz
open Go.Value renaming int->I,slice->A
open Go.IntKind renaming i64->Z
open Option renaming none->N,some->R
open OC(oC)
open OR(oR)
open JN(jN)
open Bool renaming true->Bn,false->Bm,and_eq_true->Bi,or_eq_true->Ew,false_eq_true->Dc,false_and->Ct,true_and->Ea,eq_iff_iff->Ev,and_false->Ej
open Go renaming Calls->Bv,bodyPost_ret->Ce,maxLen->Bu,World->Bh,madeCells->Ds,heap_alloc_new->Bg,info_parts->Ck
open Go.RowKit renaming intOf->By,Below->Bp
open List renaming countP_le_length->Dn,length_take->Cf,range->Bz,replicate->Ch,length_replicate->Eh
open Nat renaming reduceAdd->Bj,not_lt_zero->Dh
theorem Qek{w}(b o)(m:Qyb)(t a)(h:At Qq w b o m)(it:Qyn t)(ia:Qyn a)(A3:Zc (mC m) (t,a)=Bn)(A4:Q97 (mC m))(A5:(mC m).length<=1500):
  Bv prog 130 #[(b,o),.agg #[t,a]] w λe w'=>∃t' a':Int,e=.returned (.tuple #[.agg #[t',a'],.bool (V7 (mC m) ((mC m)+1) (t,a))])/\(w,w'):=by
 obtain⟨cs,f,⟨rt,ra⟩,xs⟩:=m;obtain⟨pc,cc,_,_,⟨W,-,-,-,-⟩,-,⟨hc,hm,A6⟩,-⟩:=h.mem;clear hm;have hm:cs.length<=1500:=A5;clear A5;have HC:=qh A6;have AB:=D (Zc cs (t,a)=Bn) (A3);have AC:=D (Q97 cs) (A4);have AD:=qh (And.intro it ia);have AE:=Ac w _ W;simp only at AE;clear A6 h A3 A4 it ia;go_enter func130,ntmps130;go_wp2_with fail
 obtain⟨H0,H1,hB⟩:=Qqw w t a (I Z 0) (I Z 0) 40;have A7:=qh H0;have A8:=qh H1;have A9:=qh hB;clear H0 H1 hB
 go_loopw [12] (λu wr=>∃(n j:Nat) (H B:Int),n+j=cs+1/\u=I Z j/\Hd (wr,oC w.heap.size #[H,B] 40)/\Hd (wr,oC (w.heap.size+1) #[(),()] 40)/\
  Hd (Zc cs (H,B)=Bn)/\Hd (Qyn H/\Qyn B)/\Hd (V7 cs (cs+1) (t,a)=V7 cs n (H,B))/\Hd (w,wr)) (λu _=>cs.length+1-(By u).toNat)
 case atStart=>exact⟨cs+1,0,t,a,rfl,rfl,A7.o,A8.o,AB.o,AD.o,rfl,A9.o⟩
 obtain⟨n,j,H,B,hn,rfl,J,G,HW,HI,g,K⟩:=hrel;have i:=qh hn;clear hn;clear A7 A8 A9;have L:=jC K W;have M:=Q6 J (o:=0) rfl;have O:=Q6 J (o:=1) rfl;have P:=Q6 G (o:=0) rfl;have S:=Q6 G (o:=1) rfl;have U:∀q,wr.frozen? ⟨w,q,N⟩=Bm:=λq=>Q0u.free (T:=40) ⟨_,J.o⟩ q;have V:∀q,wr.frozen? ⟨w+1,q,N⟩=Bm:=λq=>Q0u.free (T:=40) ⟨_,G.o⟩ q;cases n with
 |zero=>
  have AF:decide ((j:Int)<(cs:Int)+1)=Bm:=by simp;have:=i.o;omega
  go_wp2_with fail
  refine Ce (v:=.tuple #[.agg #[(),()],.bool Bm]) (by simp[results,results130,go_sem,Q6 (Qkm G (I Z 0) (I Z 0)) (o:=0) rfl,Q6 (Qkm G (I Z 0) (I Z 0)) (o:=1) rfl]) rfl ?_;exact⟨0,0,by show _=Ending.returned (.tuple #[_,.bool (V7 cs (cs+1) (t,a))]);rw[g.o];rfl,(K.o.setCell (by simp) _).setCell (by simp) _⟩
 |succ n=>
  have AF:decide ((j:Int)<(cs:Int)+1)=Bn:=by simp;have:=i.o;omega
  have AO:j<=cs:=by have:=i.o;omega
  by_cases ht:H=2;rotate_left
  ·obtain rfl:H=1:=by have:=HW.o;simp only[Zc,Bi,Ew,beq_iff_eq]at this;omega
   have r:((1:Int) !=2)=Bn:=by decide
   clear ht;have X:=D (V7 cs (n+1) (1,B)=Bn) (by simp only[V7,r,Bool.true_or,if_true]);go_wp2
   go_quiet(fail)
   have E:=D ((wr.drewN nq).heap[w.heap.size]?=R (.cells #[I Z 1,B] 40)) (J.o);have C:=D ((wr.drewN nq).heap[w.heap.size+1]?=R (.cells #[(),()] 40)) (G.o);have F:=D (Bp w w (wr.drewN nq)) (Q8 K _);generalize wr.drewN nq=w1 at *
   clear M O P S U V L;have L:=jC F W;have M:=Q6 E (o:=0) rfl;have O:=Q6 E (o:=1) rfl;have P:=Q6 C (o:=0) rfl;have S:=Q6 C (o:=1) rfl;have U:∀q,w1.frozen? ⟨w,q,N⟩=Bm:=λq=>Q0u.free (T:=40) ⟨_,E.o⟩ q;have V:∀q,w1.frozen? ⟨w+1,q,N⟩=Bm:=λq=>Q0u.free (T:=40) ⟨_,C.o⟩ q;go_wp2_with fail
   refine Ce (v:=.tuple #[.agg #[I Z 1,B],.bool Bn]) (by simp[results,results130,go_sem,Q6 (Qkm C (I Z 1) B) (o:=0) rfl,Q6 (Qkm C (I Z 1) B) (o:=1) rfl]) rfl ?_;exact⟨1,B,by show _=Ending.returned (.tuple #[_,.bool (V7 cs (cs+1) (t,a))]);rw[g.o,X.o],(F.o.setCell (by simp) _).setCell (by simp) _⟩
  subst ht;have r:((2:Int) !=2)=Bm:=by decide
  have AA:=HW.o;simp only[Zc,Bi,Qj]at AA;obtain⟨⟨g1,g2⟩,-⟩:=AA;have s:B.toNat<cs:=by omega
  have g3:B<cs:=by omega
  obtain⟨b1,o1,rfl,z⟩:=Rd.elem HC B.toNat s;generalize hx:cs[B.toNat]=x at z;have AG:=D (x∈cs) (by rw[<-hx];exact As s);obtain⟨k,l,v,d,ws⟩:=x;have A0:=D (Q7 cs B=(k,l,v,d,ws)) (by unfold Q7;rw[Qy s,hx]);clear hx;obtain⟨_,_,pw,cw,⟨-,-,-,-,e4⟩,-,-,⟨v1,v2,hw⟩⟩:=z.agent;simp only[Ty.sz,Bj]at e4;unfold Bu at v2;have AH:=jC K e4;have AI:=qh hw;clear z hw;by_cases p:ws.length=0
  ·have AJ:((ws:Int)==0)=Bn:=by simp[p]
   have X:=D (V7 cs (n+1) (2,B)=Bn) (by
    have:((aW (Q7 cs B)).length==0)=Bn:=by rw[A0.o];simp[aW,p]
    simp only[V7,this,Bool.or_true,if_true])
   go_wp2
   go_quiet(fail)
   have E:=D ((wr.drewN nq).heap[w.heap.size]?=R (.cells #[I Z 2,B] 40)) (J.o);have C:=D ((wr.drewN nq).heap[w.heap.size+1]?=R (.cells #[(),()] 40)) (G.o);have F:=D (Bp w w (wr.drewN nq)) (Q8 K _);generalize wr.drewN nq=w1 at *
   clear M O P S U V L;have L:=jC F W;have M:=Q6 E (o:=0) rfl;have O:=Q6 E (o:=1) rfl;have P:=Q6 C (o:=0) rfl;have S:=Q6 C (o:=1) rfl;have U:∀q,w1.frozen? ⟨w,q,N⟩=Bm:=λq=>Q0u.free (T:=40) ⟨_,E.o⟩ q;have V:∀q,w1.frozen? ⟨w+1,q,N⟩=Bm:=λq=>Q0u.free (T:=40) ⟨_,C.o⟩ q;go_wp2_with fail
   refine Ce (v:=.tuple #[.agg #[I Z 2,B],.bool Bn]) (by simp[results,results130,go_sem,Q6 (Qkm C (I Z 2) B) (o:=0) rfl,Q6 (Qkm C (I Z 2) B) (o:=1) rfl]) rfl ?_;exact⟨2,B,by show _=Ending.returned (.tuple #[_,.bool (V7 cs (cs+1) (t,a))]);rw[g.o,X.o],(F.o.setCell (by simp) _).setCell (by simp) _⟩
  have AJ:((ws:Int)==0)=Bm:=by simp[p]
  have A1:0<ws.length:=by omega
  obtain⟨b2,o2,rfl,A2⟩:=Rd.elem AI 0 A1;generalize hy:ws[0]=y at A2;obtain⟨Y,c⟩:=y;obtain⟨y0,y1,AK,AL⟩:=A2.word;simp only[Nat.zero_mul,Nat.add_zero]at y0 y1;have HY:=D (ws.getD 0 (0,0)=(Y,c)) (by rw[Ab,Ad A1,hy];rfl);have AM:=D ((Y,c)∈ws) (by rw[<-hy];exact As A1);have AN:=qh (And.intro AK AL);have X:=D (V7 cs (n+1) (2,B)=V7 cs n (Y,c)) (by
   have h1:((aW (Q7 cs B)).length==0)=Bm:=by rw[A0.o];simp only[aW,beq_eq_false_iff_ne];exact p
   have h2:(aW (Q7 cs B)).getD 0 (0,0)=(Y,c):=by rw[A0.o];exact HY.o
   simp only[V7,r,h1,Bool.or_self,Dc,if_false,h2])
  clear A2 hy;go_wp2
  go_quiet(fail)
  have E:=D ((wr.drewN nq).heap[w.heap.size]?=R (.cells #[I Z 2,B] 40)) (J.o);have C:=D ((wr.drewN nq).heap[w.heap.size+1]?=R (.cells #[(),()] 40)) (G.o);have F:=D (Bp w w (wr.drewN nq)) (Q8 K _);generalize wr.drewN nq=w1 at *
  clear M O P S U V L;have L:=jC F W;have M:=Q6 E (o:=0) rfl;have O:=Q6 E (o:=1) rfl;have P:=Q6 C (o:=0) rfl;have S:=Q6 C (o:=1) rfl;have U:∀q,w1.frozen? ⟨w,q,N⟩=Bm:=λq=>Q0u.free (T:=40) ⟨_,E.o⟩ q;have V:∀q,w1.frozen? ⟨w+1,q,N⟩=Bm:=λq=>Q0u.free (T:=40) ⟨_,C.o⟩ q;have AH:=jC F e4;have AP:=jC F y0;have AQ:=jC F y1;go_wp2_with fail
  go_still_tail 11,(by kernel_rfl)
  go_wp2
  go_roundw;case rel=>exact⟨n,j+1,Y,c,by have:=i.o;omega,by go_num,Qkm E _ _,Qw6 C (by omega),AC.o _ AG _ AM,AN.o,(show _=_ by rw[g.o,X.o]),(show Bp w w _ from((F.o.setCell (by simp) _).setCell (by simp) _).drew)⟩
  simp[By];omega
theorem Qi6{w}(b o)(m:Qyb)(h:At Qq w b o m):
  Bv prog 128 #[(b,o)] w (oR w (Zo (mC m) (Qx (mC m)) (mF m))):=by
 obtain⟨cs,f,⟨rt,ra⟩,xs⟩:=m;obtain⟨pc,cc,_,_,⟨X,c1,-,-,-⟩,⟨i1,-,-⟩,⟨hc,hm,A1⟩,-⟩:=h.mem;unfold Bu at hm;have HC:=qh A1;have A6:=qh i1;have A7:=Ac w _ X;simp only at A7;clear A1 h i1;go_enter func128,ntmps128;go_wp2
 go_loopw [3,12] (λu i wr=>∃(j:Nat),j<=cs/\i=I Z j/\u=I Z ((cs.take j).countP λc=>aK c==0:Nat)/\Hd (w,wr)) (λ_ i _=>cs.length-(By i).toNat);case atStart=>exact⟨0,Ak _,rfl,by simp,Ai _ _⟩
 obtain⟨j,hj,rfl,rfl,B⟩:=hrel;have H:=jC B X;have A2:=jC B c1;by_cases A3:j<cs
 ·obtain⟨b1,o1,rfl,F⟩:=Rd.elem (HC.o.kb B) j A3
  generalize hx:cs[j]=x at F;obtain⟨k,l,v,d,ws⟩:=x;have V:=qh hx;clear hx;obtain⟨L,M,O,P,⟨W,Y,S,T,U⟩,-,-,-⟩:=F.agent;have a:=qh (F.rdv T U);simp only[Ty.sz,Bj]at W Y S T U;have r:=Dn (p:=λc=>aK c==0) (l:=cs.take j);rw[Cf]at r;have HS:=qh (Q33 (p:=λc:Qb=>aK c==0) A3);have A8:=Ac wr _ W;simp only at A8;clear F X c1 H A2;generalize hcn:(cs.take j).countP (λc=>aK c==0)=cn at *
  go_upto_region 5 with fail
  refine Qp λW1 s=> ?_;have t:=D (wr,W1) (by rw[s];go_grown);obtain⟨g0,g1,g2,g3,g4⟩:=Q11 wr k l v (A L d M) (A O ws P) 172;rw[<-s]at g0 g1 g2 g3 g4;clear s W Y S T U;have A4:=qh (a.o.kb t.o);by_cases E:k=0
  ·have G:=D ((k==0)=Bn) (by simp[E])
   have y:=D ((cs.take (j+1)).countP (λc=>aK c==0)=cn+1) (by rw[HS.o,V.o];simp[aK,E]);clear E;go_wp2_with(first|((go_at_call 165;(with_reducible refine jR (Vt [k,l,v,A L d M,A O ws P] A4) λw2 C=> ?_);have J:=qh (Q0 t.o C);clear C;simp only[aK];rw[G.o]))|((go_at_call 69;(with_reducible refine jX (Q3f Bn) ?_);rw[show Q22 Bn=1 from rfl]))|fail)
   go_roundw;case rel=>exact⟨j+1,by omega,by go_num,by rw[y.o];go_num,Q0 B J⟩
   simp[By];omega
  have G:=D ((k==0)=Bm) (by simp[E]);have y:=D ((cs.take (j+1)).countP (λc=>aK c==0)=cn+0) (by rw[HS.o,V.o];simp[aK,E]);clear E;go_wp2_with(first|((go_at_call 165;(with_reducible refine jR (Vt [k,l,v,A L d M,A O ws P] A4) λw2 C=> ?_);have J:=qh (Q0 t.o C);clear C;simp only[aK];rw[G.o]))|((go_at_call 69;(with_reducible refine jX (Q3f Bm) ?_);rw[show Q22 Bm=0 from rfl]))|fail)
  go_roundw;case rel=>exact⟨j+1,by omega,by go_num,by rw[y.o];go_num,Q0 B J⟩
  simp[By];omega
 have r:cs<=j:=by omega
 have HN:=D ((cs.take j).countP (λc=>aK c==0)=Qx cs) (by rw[Ao r];rfl);rw[HN.o];have AC:Qx cs<=cs:=Dn;rename Bh=>wo
 have A9:=B;go_wp2
 go_loopw [6,27] (λu i wr=>∃(n j:Nat) (q:Int),n+j=Qx cs/\i=I Z j/\u=I Z q/\Qyn q/\Hd (Zo cs (Qx cs) f=Zo cs n q)/\Hd (w,wr)) (λ_ i _=>Qx cs-(By i).toNat);case atStart=>exact⟨_,0,_,rfl,rfl,rfl,A6.o,rfl,A9.o⟩
 obtain⟨n,i,q,hn,rfl,rfl,iq,g,B⟩:=hrel;have AD:=iq.bd;have z:=qh hn;clear hn H A2;have H:=jC B X;cases n with
 |zero=>
  have AA:decide ((i:Int)<(Qx cs:Int))=Bm:=by simp;have:=z.o;omega
  have AB:¬(i:Int)<(Qx cs:Int):=by simpa using AA
  go_wp2
  go_ret;exact⟨Q2 (by show _=Zo cs (Qx cs) f;rw[g.o];rfl),B.o⟩
 |succ n=>
  have AB:(i:Int)<(Qx cs:Int):=by have:=z.o;omega
  cases hin:Qxi q 0 ((cs:Int)-1)with
  |false=>
   have K:=qh hin;go_wp2_with(go_at_call 167;(with_reducible refine jX (Vq _ _ _ _ _ q H) ?_);rw[K.o])
   go_ret;exact⟨Q2 (by show _=Zo cs (Qx cs) f;rw[g.o];simp only[Zo,K.o,Ct]),B.o⟩
  |true=>
   have hq:=Qj.1 hin;have K:=qh hin;have A5:q.toNat<cs:=by omega
   obtain⟨b1,o1,rfl,F⟩:=Rd.elem (HC.o.kb B) q.toNat A5;generalize hx:cs[q.toNat]=x at F;obtain⟨k,l,v,d,ws⟩:=x;have V:=D (Q7 cs q=(k,l,v,d,ws)) (by unfold Q7;rw[Qy A5,hx]);clear hx;obtain⟨L,M,O,P,⟨W,Y,S,T,U⟩,⟨-,-,iv⟩,-,-⟩:=F.agent;have a:=qh (F.rdv T U);simp only[Ty.sz,Bj]at W Y S T U;have HV:=qh iv;clear F iv;have AE:(0:Int)<=q:=hq.1;have AF:q<(cs:Int):=by omega
   clear hin hq;by_cases E:k=0
   ·have G:=D ((k==0)=Bn) (by simp[E])
    have A0:=D (Zo cs (n+1) q=Zo cs n v) (by simp only[Zo,K.o,V.o,aK,aV,G.o,Ea]);clear E;go_wp2_with(first|((go_at_call 167;(with_reducible refine jX (Vq _ _ _ _ _ q H) ?_);rw[K.o]))|((go_at_call 165;(with_reducible refine jR (Vt [k,l,v,A L d M,A O ws P] a.o) λw2 C=> ?_);have J:=qh (Q0 B C);have H:=jC C H;have S:=jC C S;clear C;simp only[aK];rw[G.o]))|fail)
    go_roundw;case rel=>exact⟨n,i+1,v,by have:=z.o;omega,by go_num,rfl,HV.o,(show _=_ by rw[g.o,A0.o]),J.o⟩
    simp[By];omega
   have G:=D ((k==0)=Bm) (by simp[E]);have A0:=D (Zo cs (n+1) q=Bm) (by simp only[Zo,K.o,V.o,aK,G.o,Ea,Ct]);clear E;go_wp2_with(first|((go_at_call 167;(with_reducible refine jX (Vq _ _ _ _ _ q H) ?_);rw[K.o]))|((go_at_call 165;(with_reducible refine jR (Vt [k,l,v,A L d M,A O ws P] a.o) λw2 C=> ?_);have J:=qh (Q0 B C);clear C;simp only[aK];rw[G.o]))|fail)
   go_ret;exact⟨Q2 (by show _=Zo cs (Qx cs) f;rw[g.o,A0.o]),J.o⟩
def Q1e(c:Qb):Int:=if aK c==0 then 0 else if aK c==13 && ((aW c):Int)==0 then 2 else 1
def Qn8(cs:List Qb)(ws rs:List Wd):Bool:=(Bz cs).all λi=>((Jk ws rs i:Nat):Int)==Q1e (Q9 cs i)
def Qo6:(prog.info? 3).map (λi=>(i.zero,i.size,i.bytes))=R (R (I Z 0),1,8):=by kernel_rfl
theorem Qg9(n):(Ds (I Z 0).cells n).toList=Qa9 .int (Ch n (0:Int)):=by
 have B:(I Z 0).cells=#[I Z 0]:=by rfl
 rw[B,Q70];unfold Ds;apply List.ext_getElem
 ·simp
 ·intro i C E
  simp[Nat.mod_one]
def Qic(w:Bh)(T n)(E:n<=1000000000):Qxu .int T w (w.alloc (.cells (Ds (I Z 0).cells n) T)) (A (R (w,0)) n n) (Ch n (0:Int)):=by
 have h:=Qxu.of_block (t:=.int) (e:=T) (B:=w) (xs:=Ch n (0:Int)) (Bg w (.cells (Ds (I Z 0).cells n) T)) (Aj _) rfl (Qg9 n) (λx C=>by rw[List.eq_of_mem_replicate C];show Qyn 0;unfold Qyn;omega) (by rw[Eh];unfold Bu;omega);rw[Eh]at h;exact h
def Qls(w)(n:Nat)(H:n<=1000000000):(Instr.makeSlice 233 (n:Int) (n:Int)).run prog w=.ok (A (R (w,0)) n n) (w.alloc (.cells (Ds (I Z 0).cells n) 3)):=by
 obtain⟨B,C,E,F,G⟩:=Ck Qo6;have:=run_make (P:=prog) w 233 3 B (I Z 0) underlying233 C E Z Z (n:Int) (n:Int) (by omega) (by omega) (by rw[G];omega) (by omega);rw[F]at this;simpa using this
def OwnI.blk{e B w}{xs:List Int}{g n c}(h:Qxu .int e B w (A (R (g,0)) n c) xs)(E:0<xs.length):Q0u w g e:=by
 obtain⟨G,c',C,-,-,F,-⟩:=OwnI.head h E;simp only[Value.slice.injEq,Option.some.injEq,Addr.mk.injEq,and_true]at C;rw[C.1];exact F
def Qh5(u:Nat){B x}(h:x=B):((u:Int) !=B)=Bm/\Hd (((u:Int)==x)=Bn)\/((u:Int) !=B)=Bn/\Hd (((u:Int)==x)=Bm):=by
 subst h;by_cases h:(u:Int)=x
 ·exact .inl ⟨by simp[h],qh (by simp[h])⟩
 exact .inr ⟨by simp[h],qh (by simp[h])⟩
theorem Qqk{w}(b o)(m:Qyb)(held:List Wd)(ph ch)(h:At Qq w b o m)(hh:Rd (.slice Q5) w [A ph held ch] held)(hz:(Z8 m).length+held.length<=10000000)(AI:1<=(mC m).length)(AJ:(mC m).length<=1500)(AK:(mX m).length<=1500)(P:∀x∈Z8 m++held,Zc (mC m) x=Bn)(AL:∀p∈mX m,Zn (mC m) p=Bn):
  Bv prog 127 #[(b,o),A ph held ch] w (oR w (Qn8 (mC m) (Z8 m++held) (mX m))):=by
 have HM:=qh h;obtain⟨M,hM⟩:∃M,M=m:=⟨_,rfl⟩;obtain⟨cs,f,⟨S,T⟩,xs⟩:=m;obtain⟨pc,cc,px,cx,⟨m0,-,-,-,m4⟩,-,⟨-,-,A1⟩,⟨BG,-,AM⟩⟩:=h.mem;have AJ:cs.length<=1500:=AJ;have AI:1<=cs.length:=AI;have AK:xs.length<=1500:=AK;obtain⟨B,A2⟩:∃x,x=Z8 (cs,f,(S,T),xs)++held:=⟨_,rfl⟩;have AX:=D (B.length<=10000000) (by rw[A2,List.length_append];exact hz);have HZ:=D ((Z8 (cs,f,(S,T),xs)).length<=100000000/\(Z8 (cs,f,(S,T),xs)).length+held.length<=1000000000) (by omega);have AY:=qh A2;have AZ:=D (∀x∈B,Zc cs x=Bn) (by rw[A2];exact P);have B0:=D (∀p∈xs,Zn cs p=Bn) (AL);have HC:=qh A1;have HX:=qh AM;have HH:=qh hh;have HP:=D (Qn8 (mC (cs,f,(S,T),xs)) (Z8 (cs,f,(S,T),xs)++held) (mX (cs,f,(S,T),xs))=Qn8 cs B xs) (by rw[A2];rfl);rw[HP.o];clear P AL A1 AM hh h hz A2 hM M;obtain⟨i0,B1,B2,B3,B4⟩:=Ck Q0a;have B5:=λW=>Qls W cs (by omega);have AN:=qh (Qic w 3 cs (by omega));generalize Ds (I Z 0).cells cs.length=cur at *
 go_enter func127,ntmps127;go_upto_region 2 with fail
 refine Qp λW1 A6=> ?_;have A7:=D (w,W1) (by rw[A6];go_grown);have AO:=D (Qxu .int 3 w W1 (A (R (w,0)) cs cs) (Qyg [] [] cs.length)) (by rw[A6];exact AN.o.eqL (Qra).symm);have BH:W1.heap.size=w+1:=by rw[A6];simp
 clear A6 B5 AN;have n0:=jC A7 m0;go_upto_region 3 with(first|((go_at_call 121;(with_reducible refine(Qav b o _ (HM.o.kb A7) HZ.o.1).mono ?_);rintro e w2 ⟨BI,rfl,ho,H⟩;have A8:=qh ho;have J:=qh H;clear ho H;obtain⟨B6,B7,rfl,-,-⟩:=A8.o.form))|(at_builtin;refine Ql _ rfl (.tmp 20) (.tmp 21) 121 rfl (t:=Q5) (v:=A B6 (Z8 (cs,f,(S,T),xs)) B7) (xs:=Z8 (cs,f,(S,T),xs)) (ys:=held) rfl (by decide) W1 40 i0 _ 16 underlying121 B1 B2 B3 B4 rfl (by decide) rfl rfl A8 (HH.o.kb (Q0 A7 J)) HZ.o.2 J.o.size ?_;intro BJ w3 AP AQ;have AD:=qh (A8.o.grew J J.o.size AQ);have AE:=qh (AP.eqL AY.o.symm);clear AP AQ;obtain⟨B8,B9,rfl,-,-⟩:=AE.o.form)|fail)
 have AR:=D (w,w3) (Q0 A7 AD);have AS:=qh (AO.o.kept AD);have BK:=AD.o.size;clear J A8 n0 AO;go_loopw [24] (λi wr=>∃(j:Nat),j<=B/\i=I Z j/\Hd (Qxu .int 3 w wr (A (R (w,0)) cs cs) (Qyg (B.take j) [] cs.length))/\Hd (Qxu Q5 40 W1 wr (A B8 B B9) B)/\Hd (w,wr)) (λi _=>B.length-(By i).toNat);case atStart=>exact⟨0,Ak _,rfl,AS.o,AE.o,AR.o⟩
 obtain⟨j,hj,rfl,K,HO,C⟩:=hrel;clear AS AE AR;have BL:B.length<=10000000:=AX.o;by_cases G:j<B
 ·obtain⟨b2,o2,rfl,hE⟩:=Rd.elem (HO.o.rd rfl) j G
  have HS:=qh (An G);have AF:=qh (AZ.o B[j] (As G));generalize B[j]=y at *
  obtain⟨t,a⟩:=y;obtain⟨r,y1,-,-⟩:=hE.word;simp only[Ty.sz,Bj]at r y1;have P:=AF.o;simp only[Zc,Bi,Qj]at P;obtain⟨⟨g1,g2⟩,-⟩:=P;have U:a.toNat<cs:=by omega
  have g3:a<(cs:Int):=by omega
  have V:=Ac wr _ r;simp only at V;clear hE;go_upto_region 5 with fail
  refine Qp λF L=> ?_;have E:=D (wr,F) (by rw[L];go_grown);have AG:=D (F,oC wr.heap.size #[t,a] 40) (by rw[L];exact Bg wr _);clear L r y1 V;obtain⟨⟨q0,q1⟩,-⟩:=Zj AG;have Y:=qh (K.o.kept E);obtain⟨u,-⟩:=OwnI.get Y a.toNat (by rw[Y7];exact U);rw[Q2y U]at u;have z:=Q3w (B.take j) [] a.toNat;rw[Cf]at z;have A3:=qh (Qkh (ws:=B.take j) (n:=cs) (w:=(t,a)) g1 U);simp only at A3;have HG:=qh (OwnI.blk Y (by rw[Y7];omega));have fG:=λq=>HG.o.free q;have BA:=HG.o.lt;generalize hun:Jk (B.take j) [] a.toNat=un at *
  have BB:un<=10000000:=by simp only[List.length_nil]at z;omega
  clear z hun;go_wp2
  go_roundw;case rel=>exact⟨j+1,by omega,by go_num,(show Qxu _ _ _ _ _ _ from(OwnI.set Y a.toNat (by rw[Y7];exact U) _ (by unfold Qyn;omega)).eqL (by rw[HS.o,A3.o])),(show Qxu _ _ _ _ _ _ from(HO.o.kept E).frame (V1 (X:=λc=>c=w) (Q1.refl _ _) rfl _) (λi hi e=>by have:=(HO.o.block i hi).1;omega)),(show Bp w w _ from(Q0 C E).setCell (Aj _) _)⟩
  simp[By];omega
 have A9:B<=j:=by omega
 have A4:=qh (K.o.eqL (by rw[Ao A9]:_=Qyg B [] cs.length));have J:=qh C.o;have n4:=jC C m4;clear K HO C;go_wp2_with fail
 clear n4;go_loopw [41] (λi wr=>∃(j:Nat),j<=xs/\i=I Z j/\Hd (Qxu .int 3 w wr (A (R (w,0)) cs cs) (Qyg B (xs.take j) cs))/\Hd (w,wr)) (λi _=>xs.length-(By i).toNat);case atStart=>exact⟨0,Ak _,rfl,A4.o,J.o⟩
 obtain⟨j,hj,rfl,K,C⟩:=hrel;clear A4 J;by_cases G:j<xs
 ·obtain⟨b2,o2,rfl,hE⟩:=Rd.elem (HX.o.kb C) j G
  have HS:=qh (An G);have AF:=qh (B0.o xs[j] (As G));generalize xs[j]=y at *
  obtain⟨O,pb⟩:=y;obtain⟨r,y1,-,-⟩:=hE.word;simp only[Ty.sz,Bj]at r y1;have P:=AF.o;simp only[Zn,Bi,Qj]at P;obtain⟨⟨k1,k2⟩,⟨k3,k4⟩,-⟩:=P;have U:O.toNat<cs:=by omega
  have AA:pb.toNat<cs:=by omega
  have g3:O<(cs:Int):=by omega
  have g4:pb<(cs:Int):=by omega
  have g5:0<=pb:=by omega
  have V:=Ac wr _ r;simp only at V;clear hE;go_upto_region 10 with fail
  refine Qp λF L=> ?_;have E:=D (wr,F) (by rw[L];go_grown);have AG:=D (F,oC wr.heap.size #[O,pb] 143) (by rw[L];exact Bg wr _);clear L r y1 V;obtain⟨⟨q0,q1⟩,-⟩:=Zj AG;have Y:=qh (K.o.kept E);have BM:w.heap.size<wr:=(OwnI.blk K (by rw[Y7];omega)).lt;obtain⟨u,-⟩:=OwnI.get Y O.toNat (by rw[Y7];exact U);obtain⟨u1,-⟩:=OwnI.get Y pb.toNat (by rw[Y7];exact AA);rw[Q2y U]at u;rw[Q2y AA]at u1;have z:=Q3w B (xs.take j) O.toNat;have AT:=Q3w B (xs.take j) pb.toNat;rw[Cf]at z AT;have A3:=qh (Qhg (ws:=B) (rs:=xs.take j) (n:=cs) (p:=(O,pb)) k3 (by simp only;omega) AA);simp only at A3;have HG:=qh (OwnI.blk Y (by rw[Y7];omega));have fG:=λq=>HG.o.free q;have BA:=HG.o.lt;generalize hun:Jk B (xs.take j) O.toNat=ua at *
  generalize hun':Jk B (xs.take j) pb.toNat=ub at *
  have BB:ua<=100000000:=by omega
  have BN:ub<=100000000:=by omega
  have BO:¬O.toNat=pb.toNat:=by omega
  have BP:wr.heap.size≠w:=by omega
  clear z AT hun hun';go_wp2
  go_roundw;case rel=>exact⟨j+1,by omega,by go_num,(show Qxu _ _ _ _ _ _ from(OwnI.set (OwnI.set Y O.toNat (by rw[Y7];exact U) (ua+1) (by unfold Qyn;omega)) pb.toNat (by rw[List.length_set,Y7];exact AA) (ub+1) (by unfold Qyn;omega)).eqL (by rw[HS.o,A3.o])),(show Bp w w _ from((Q0 C E).setCell (Aj _) _).setCell (Aj _) _)⟩
  simp[By];omega
 have A9:xs<=j:=by omega
 have A4:=qh (K.o.eqL (by rw[Ao A9]:_=Qyg B xs cs));have J:=qh C.o;have n0:=jC C m0;clear K C;go_wp2_with fail
 clear n0;go_loopw [65] (λi wr=>∃(j:Nat),j<=cs/\i=I Z j/\Hd (Qxu .int 3 w wr (A (R (w,0)) cs cs) (Qyg B xs cs))/\Hd (∀q:Nat,q<j->(((Jk B xs q:Nat):Int)==Q1e (Q9 cs q))=Bn)/\Hd (w,wr)) (λi _=>cs.length-(By i).toNat);case atStart=>exact⟨0,Ak _,rfl,A4.o,λq h=>absurd h (Dh _),J.o⟩
 obtain⟨j,hj,rfl,K,HK,C⟩:=hrel;clear A4 J;by_cases G:j<cs
 ·obtain⟨b2,o2,rfl,hA⟩:=Rd.elem (HC.o.kb C) j G
  generalize hx:cs[j]=x at hA;obtain⟨k,l,v,d,ws⟩:=x;have HX:=D (Q9 cs j=(k,l,v,d,ws)) (by rw[Qy G,hx]);clear hx;obtain⟨pd,cd,pw,cw,⟨e0,e1,e2,e3,e4⟩,-,-,-⟩:=hA.agent;have HA:=qh (hA.rdv e3 e4);simp only[Ty.sz,Bj]at e0 e1 e2 e3 e4;have V:=Ac wr _ e0;simp only at V;clear hA;go_upto_region 17 with fail
  refine Qp λF L=> ?_;have E:=D (wr,F) (by rw[L];go_grown);obtain⟨g0,g1,g2,g3,g4⟩:=Q11 wr k l v (A pd d cd) (A pw ws cw) 172;rw[<-L]at g0 g1 g2 g3 g4;clear L e0 e1 e2 e3 e4 V;have AU:=D (∀W,Bp wr wr W->Rd Q4 W [k,l,v,A pd d cd,A pw ws cw] (k,l,v,d,ws)) (λW H=>HA.o.kb H);have BC:=qh (AU.o _ E);obtain⟨AB,-⟩:=OwnI.get K j (by rw[Y7];exact G);rw[Q2y G]at AB;have A0:=D ((F,wr.heap.size,0,k)/\(F,wr.heap.size,1,l)/\(F,wr.heap.size,2,v)/\(F,wr.heap.size,3,A pd d cd)/\(F,wr.heap.size,4,A pw ws cw)) (⟨g0,g1,g2,g3,g4⟩);have AV:=D (∀W,Bp F F W->(W,wr.heap.size,0,k)/\(W,wr.heap.size,1,l)/\(W,wr.heap.size,2,v)/\(W,wr.heap.size,3,A pd d cd)/\(W,wr.heap.size,4,A pw ws cw)) (λW H=>have hk:=Am H;⟨hk.cell _ _ A0.o.1,hk.cell _ _ A0.o.2.1,hk.cell _ _ A0.o.2.2.1,hk.cell _ _ A0.o.2.2.2.1,hk.cell _ _ A0.o.2.2.2.2⟩);clear A0;obtain⟨un,AH⟩:∃un,Jk B xs j=un:=⟨_,rfl⟩;rw[AH]at AB;have AW:=qh AH;clear AH;have A1:(k=0\/(k≠0/\k=13/\ws.length=0))\/((k≠0/\k=13/\ws.length≠0)\/(k≠0/\k≠13)):=by omega
  have hW:(k==0)=Bn/\Q1e (Q9 cs j)=0\/((k==0)=Bm/\(k==13)=Bn/\((ws:Int)==0)=Bn/\Q1e (Q9 cs j)=2\/(k==0)=Bm/\(k==13)=Bn/\((ws:Int)==0)=Bm/\Q1e (Q9 cs j)=1)\/(k==0)=Bm/\(k==13)=Bm/\Q1e (Q9 cs j)=1:=by
   rw[HX.o];rcases A1 with(h|⟨h0,g,h2⟩)|(⟨h0,g,h2⟩|⟨h0,g⟩)
   ·exact .inl ⟨by simp[h],by simp[Q1e,aK,h]⟩
   ·exact .inr (.inl (.inl ⟨by simp[h0],by simp[g],by simp[h2],by simp[Q1e,aK,aW,g,h2]⟩))
   ·exact .inr (.inl (.inr ⟨by simp[h0],by simp[g],by simp[h2],by simp[Q1e,aK,aW,g,h2]⟩))
   exact .inr (.inr ⟨by simp[h0],by simp[g],by simp[Q1e,aK,aW,h0,g]⟩)
  have HW:=qh hW;clear A1 hW;rcases HW.o with⟨k0,hw⟩|(⟨k0,AC,l0,hw⟩|⟨k0,AC,l0,hw⟩)|⟨k0,AC,hw⟩
  all_goals
   have K0:=qh k0;have BD:=qh hw;clear hw k0 HW;first|(have BE:=qh AC;clear AC)|skip
   first|have BQ:=qh l0|skip
   rcases Qh5 un BD with⟨hq,HQ⟩|⟨hq,HQ⟩
  all_goals
   go_wp2_with(first|((go_at_call 165;(with_reducible refine jR (Vt [k,l,v,A pd d cd,A pw ws cw] BC) λw6 H=> ?_);have s:=qh H;clear H;have u:=jC (Q0 E s.o) AB;obtain⟨e0,e1,e2,e3,e4⟩:=AV.o _ s.o;simp only[aK];rw[K0.o]))|((go_at_call 129;(with_reducible refine jR (Q18 [k,l,v,A pd d cd,A pw ws cw] (AU.o _ (Q0 E s.o))) λw7 H=> ?_);have A5:=qh (Q0 s.o H);clear H u e0 e1 e2 e3 e4;have u:=jC (Q0 E A5) AB;obtain⟨e0,e1,e2,e3,e4⟩:=AV.o _ A5;simp only[aK];rw[BE.o]))|fail)
   first
    |(go_ret;exact⟨Q2 (J5 j G (by rw[AW.o];exact HQ.o)).symm,by first|exact Q0 C (Q0 E A5)|exact Q0 C (Q0 E s.o)⟩)
    |(go_roundw
      case rel=>exact⟨j+1,by omega,by go_num,(show Qxu _ _ _ _ _ _ from K.o.kept (by first|exact Q0 E A5.o|exact Q0 E s.o)),λq hq=>(by
       by_cases BF:q=j
       ·subst BF;rw[AW.o];exact HQ.o
       exact HK.o q (by omega)),(show Bp w w _ from by first|exact Q0 C (Q0 E A5)|exact Q0 C (Q0 E s.o))⟩
      simp[By];omega)
 have A9:cs<=j:=by omega
 go_wp2
 go_ret;exact⟨Q2 (Q1l λi hi=>HK.o i (by omega)).symm,C.o⟩
theorem Q7z{α:Type}{p}{l:List α}(h:∀x∈l,p x=Bm):l.countP p=0:=by
 grind
theorem Qux{cs ws rs}(J:∀c∈cs,Ze c=Bn)(K:∀x∈ws,Zc cs x=Bn)(G:∀p∈rs,Zn cs p=Bn):Qn8 cs ws rs=(Bz cs).all λi=>Q51 (Q9 cs i) (Jk ws rs i):=by
 unfold Qn8;rw[Ev,Bf,Bf];refine forall_congr' λi=> ?_;refine imp_congr_right λC=> ?_;have C:=List.mem_range.1 C;have L:Ze (Q9 cs i)=Bn:=J _ (by rw[Qy C];exact As C);by_cases E:aK (Q9 cs i)=0
 ·have M:Jk ws rs i=0:=by
   unfold Jk;have H:∀a:Int,a=(i:Int)->Q7 cs a=Q9 cs i:=λa e=>by rw[e];simp[Q7]
   rw[Q7z,Q7z,Q7z]
   ·intro p F
    have:=G p F;simp only[Zn,Bi]at this;by_cases e:p.2=(i:Int)
    ·have B:=this.2.2.2;rw[H _ e,E]at B;exact absurd B (by decide)
    simpa using e
   ·intro p F
    have:=G p F;simp only[Zn,Bi]at this;by_cases e:p.1=(i:Int)
    ·have B:=this.2.2.1;rw[H _ e,E]at B;exact absurd B (by decide)
    simpa using e
   intro x O;have:=K x O;simp only[Zc,Bi,Ew]at this;grind[Y9,Qxi]
  rw[M];simp[Q1e,Q51,E,Y9,Qxi]
 by_cases P:aK (Q9 cs i)=13
 ·grind[Qdn,Q1e,Q51,Y9,Qxi]
 have S:Y9 (aK (Q9 cs i))=Bn:=by unfold Ze at L;grind
 have T:(aK (Q9 cs i)==0)=Bm:=by simpa using E
 have U:(aK (Q9 cs i)==13)=Bm:=by simpa using P
 simp only[Q1e,Q51,T,U,S,Dc,if_false,Ct,Bool.not_true,Bool.false_or,Bool.not_false,Bool.true_or,Bool.and_true,beq_iff_eq];omega
def Qwr(w vs)(x:Qb)(h:Rd Q4 w vs x)(C:(aW x).length<=100000000):Bv prog 118 #[.agg vs.toArray] w (oR w (!Ze x)):=by
 have H:=qh h;obtain⟨k,l,v,d,ws⟩:=x;obtain⟨E,F,G,J,rfl,-,-,-⟩:=h.agentV;clear h;go_enter func118,ntmps118;go_wp2_with((go_at_call 119;(with_reducible refine jR (Qq6 [k,l,v,A E d F,A G ws J] (H.o.kb (by go_grown)) C) λw1 B=> ?_);have K:=D (w,w1) (Q0 (by go_grown) B);clear B))
 go_ret;exact⟨rfl,K.o⟩
def Qwt(w)(g:Nat)(b o)(m:Qyb)(C:w.cell? (g,0)=R (.pointer (R (b,o))))(h:At Qq w b o m)(t:Int)(a)(E:Qyn a):Bv prog 122 #[.agg #[t,a],(g,0)] w (oR w (!Zc (mC m) (t,a))):=by
 have H:=qh h;have F:=Ac w _ C;simp only at F;clear h;go_enter func122,ntmps122;go_wp2_with((go_at_call 123;(with_reducible refine jR (Qvp b o m (H.o.kb (by go_grown)) t a E) λw1 B=> ?_);have G:=D (w,w1) (Q0 (by go_grown) B);clear B))
 go_ret;exact⟨rfl,G.o⟩
def Qwq(w)(g:Nat)(b o)(m:Qyb)(C:w.cell? (g,0)=R (.pointer (R (b,o))))(h:At Qq w b o m)(x y:Int):Bv prog 125 #[.agg #[x,y],(g,0)] w (oR w (!Zn (mC m) (x,y))):=by
 have H:=qh h;have E:=Ac w _ C;simp only at E;clear h;go_enter func125,ntmps125;go_wp2_with((go_at_call 126;(with_reducible refine jR (Qnb b o m (H.o.kb (by go_grown)) x y) λw1 B=> ?_);have F:=D (w,w1) (Q0 (by go_grown) B);clear B))
 go_ret;exact⟨rfl,F.o⟩
def Q61{α:Type}{l:List α}{f}(h:l.all f=Bm):(l.any λx=> !f x)=Bn:=by
 have:=Q3u l f;rw[h]at this;simpa using this
def Q56{α:Type}{l:List α}{f}(h:l.all f=Bn):(l.any λx=> !f x)=Bm:=by
 have:=Q3u l f;rw[h]at this;simpa using this
theorem Qu8{w}(b o){m:Qyb}(held:List Wd)(ph ch)(h:At Qq w b o m)(hh:Rd (.slice Q5) w [A ph held ch] held)(hz:(Z8 m).length+held.length<=10000000)(AK:∀c∈mC m,(aW c).length<=100000000)(AL:(mX m).length<=100000000):
  Bv prog 72 #[.pointer (R ⟨b,o,N⟩),A ph held ch] w (oR w (Q14 m held (mX m))):=by
 have HM:=qh h;obtain⟨M,hM⟩:∃M,M=m:=⟨_,rfl⟩;have BL:=qh hM;obtain⟨cs,f,⟨rt,ra⟩,xs⟩:=m;obtain⟨pc,cc,px,cx,⟨m0,-,-,-,m4⟩,-,⟨-,hm,AM⟩,⟨-,-,AN⟩⟩:=h.mem;rw[<-hM]at HM hz⊢;have HC:=qh AM;have n:=qh AN;have HH:=qh hh;have K:=D (mC M=cs) (by rw[hM];rfl);have r:=D (mX M=xs) (by rw[hM];rfl);have HZ:=D ((Z8 M).length<=100000000/\(Z8 M).length+held.length<=1000000000/\(Z8 M).length+held.length<=10000000) (by omega);have B2:=D (∀c∈cs,(aW c).length<=100000000) (AK);have BM:xs.length<=100000000:=AL;have B3:=Ac w _ m0;simp only at B3;unfold Bu at hm;clear h AM AN hh hM hz AK AL;obtain⟨i0,B4,B5,B6,B7⟩:=Ck Q0a;obtain⟨s,A4⟩:∃s,s=w.alloc (.cells #[.pointer (R ⟨b,o,N⟩)] 120):=⟨_,rfl⟩;have A5:=D (Bp w w s) (by rw[A4];go_grown);have p0:s.cell? ⟨w,0,N⟩=R (.pointer (R ⟨b,o,N⟩)):=by rw[A4];exact Q6 (Bg w _) rfl
 have E:=jC A5 m0;have F:=jC A5 m4;have B8:=qh A4;clear A4 m0 m4;go_enter func72,ntmps72;go_upto_region 1 with fail
 rw[<-B8.o];by_cases hq:(1<=cs.length/\cs.length<=1500)/\xs.length<=cs;rotate_left
 ·have HP:=D (Q14 M held (mX M)=Bm) (by
   by_cases q0:1<=cs.length/\cs.length<=1500
   ·simp only[Q14,K.o,r.o,show ¬xs.length<=cs from λh=>hq ⟨q0,h⟩,decide_false,Ct,Ej]
   have:Qxi cs 1 1500=Bm:=Q13.2 (by omega);simp only[Q14,K.o,this,Ct])
  have h3:(decide ((cs:Int)<1)=Bn\/decide ((cs:Int)<1)=Bm/\decide ((1500:Int)<(cs:Int))=Bn)\/decide ((cs:Int)<1)=Bm/\decide ((1500:Int)<(cs:Int))=Bm/\decide (cs.length<xs)=Bn:=by simp only[decide_eq_true_eq,decide_eq_false_iff_not];omega
  rcases h3 with(q1|⟨q1,q2⟩)|⟨q1,q2,q3⟩
  all_goals
   go_quiet(fail)
   go_wp2;go_ret;exact⟨Q2 HP.o.symm,Q8 A5 _⟩
 obtain⟨⟨BN,BO⟩,q3⟩:=hq;have B9:decide ((cs:Int)<1)=Bm:=by simp;omega
 have BA:decide ((1500:Int)<(cs:Int))=Bm:=by simp;omega
 have BB:=D (Qxi cs 1 1500=Bn) (Qj.2 (by omega));have BC:decide (cs.length<xs)=Bm:=by simp;omega
 have AO:=qh q3;go_quiet(fail)
 go_upto_region 3 with fail
 refine Qp λG AP=> ?_;have AQ:=D (s,G) (by rw[AP];exact Q8 (Ai _ _) _);clear AP;have H:=qh (Q0 A5 AQ);have L:=D (∀W,Bp G G W->W.cell? ⟨w,0,N⟩=R (.pointer (R ⟨b,o,N⟩))/\(W,b,o,A pc cs cc)/\(W,b,o+4,A px xs cx)) (λW B=>have hk:=Am (Q0 AQ B);⟨hk.cell _ _ p0,hk.cell _ _ E,hk.cell _ _ F⟩);have T:=D (∀W,Bp G G W->At Qq W b o M) (λW B=>HM.o.kb (Q0 H B));clear p0 E F B9 BA BC q3;obtain⟨p0,E,F⟩:=L.o G (Ai _ _);obtain⟨WS,AR⟩:∃x,x=Z8 M++held:=⟨_,rfl⟩;have A6:=qh AR;clear AR;have BD:=D (Vw prog 118) (by intro _ _;kernel_rfl);have BE:=D (Vw prog 122) (by intro _ _;kernel_rfl);have BF:=D (Vw prog 125) (by intro _ _;kernel_rfl);have BG:=D (∀(W:Bh),Bp G G W->∀(C:Bh) (vs:List Value) (x:Q4.den),x∈cs->Bp W W C->Rd Q4 C vs x->Bv prog 118 (#[.agg vs.toArray]++ #[]) C (oR C (!Ze x))) (λW _ C vs x u _ hr=>Qwr C vs x hr (B2.o x u));have BH:=D (∀(W:Bh),Bp G G W->∀(C:Bh) (vs:List Value) (x:Q5.den),x∈WS->Bp W W C->Rd Q5 C vs x->Bv prog 122 (#[.agg vs.toArray]++ #[.pointer (R ⟨w,0,N⟩)]) C (oR C (!Zc (mC M) x))) (λW B C vs x _ V hr=>by obtain⟨t,a⟩:=x;obtain⟨rfl,-,ia⟩:=hr.wordV;exact Qwt C _ b o M (L.o C (Q0 B V)).1 (T.o C (Q0 B V)) t a ia);have BI:=D (∀(W:Bh),Bp G G W->∀(C:Bh) (vs:List Value) (x:Q5.den),x∈xs->Bp W W C->Rd Q5 C vs x->Bv prog 125 (#[.agg vs.toArray]++ #[.pointer (R ⟨w,0,N⟩)]) C (oR C (!Zn (mC M) x))) (λW B C vs x _ V hr=>by obtain⟨t,a⟩:=x;obtain⟨rfl,-,-⟩:=hr.wordV;exact Qwq C _ b o M (L.o C (Q0 B V)).1 (T.o C (Q0 B V)) t a);rcases Qx0 (cs.all Ze) (WS.all (Zc (mC M))) (xs.all (Zn (mC M)))with r1|⟨r1,r2⟩|⟨r1,r2,r3⟩|⟨r1,r2,r3⟩
 all_goals
  first|have AS:=qh (Q61 r1)|have AS:=qh (Q56 r1)
  first|have AT:=qh (Q61 r2)|have AT:=qh (Q56 r2)|skip
  first|have AU:=qh (Q61 r3)|have AU:=qh (Q56 r3)|skip
  first
   |(have AV:=D (xs.all (Zn (mC M))=Bn) (r3);have AW:=qh r1;have AX:=qh r2)
   |have HP:=D (Q14 M held (mX M)=Bm) (by first|(simp only[Q14,K.o,r1,Ct,Ej];done)|(simp only[Q14,<-A6.o,r2,Ct,Ej];done)|(simp only[Q14,r.o,r3,Ct,Ej];done))
  try clear r3
  try clear r2
  clear r1;go_upto_region 5 with(first|((go_at_call 117;(with_reducible refine jR (Q2o _ _ cs (λx=> !Ze x) _ _ (HC.o.kb H) BD (BG.o _ (Ai _ _))) λw4 B=> ?_);have y:=qh B;clear B;rw[AS.o];clear p0 E F;obtain⟨p0,E,F⟩:=L.o _ y.o))|((go_at_call 121;(with_reducible refine(Qav b o M (T.o _ y.o) HZ.o.1).mono ?_);rintro e w5 ⟨BP,rfl,ho,B⟩;have A7:=qh ho;have A0:=qh (Q0 y.o B);have A8:=qh B;clear ho B;obtain⟨BJ,BK,rfl,-,-⟩:=A7.o.form))|((at_builtin;refine Q1i _ rfl (.tmp 43) (.tmp 44) 121 rfl (t:=Q5) (v:=A BJ (Z8 M) BK) (xs:=Z8 M) (ys:=held) rfl (by decide) w4 40 i0 _ 16 underlying121 B4 B5 B6 B7 rfl (by decide) rfl rfl A7 (HH.o.kb (Q0 H A0)) HZ.o.2.1 A8.o.size ?_;intro BQ w6 AY AZ;have J:=qh (Q0 y.o (A7.o.grew A8 A8.o.size AZ));have AD:=qh (AY.eqL A6.o.symm);clear AY AZ;obtain⟨BR,BS,rfl,-,-⟩:=AD.o.form))|((go_at_call 120;(with_reducible refine jR (Q4o _ _ WS (λx=> !Zc (mC M) x) _ _ (AD.o.rd rfl) BE (BH.o _ J)) λw7 B=> ?_);have O:=qh (Q0 J B);clear B;rw[AT.o];clear p0 E F;obtain⟨p0,E,F⟩:=L.o _ O))|((go_at_call 124;(with_reducible refine jR (Q7b _ _ xs (λx=> !Zn (mC M) x) _ _ (n.o.kb (Q0 H O)) BF (BI.o _ O)) λw8 B=> ?_);have P:=qh (Q0 O B);clear B;rw[AU.o];clear p0 E F;obtain⟨p0,E,F⟩:=L.o _ P))|fail)
 any_goals (go_ret;exact⟨Q2 HP.o.symm,by first|exact Q0 H P.o|exact Q0 H O.o|exact Q0 H y.o⟩)
 have A1:=D (∀x∈Z8 M++held,Zc (mC M) x=Bn) (by rw[<-A6.o];exact Bf.1 AX);have A9:=D (∀p∈mX M,Zn (mC M) p=Bn) (by rw[r.o];exact Bf.1 AV);have AE:=D (Qn8 (mC M) (Z8 M++held) (mX M)=(Bz cs).all λi=>Q51 (Q9 cs i) (Jk (Z8 M++held) (mX M) i)) (by rw[Qux (by rw[K.o];exact Bf.1 AW) A1 A9,K.o]);have S:=D (1<=(mC M).length/\(mC M).length<=1500/\(mX M).length<=1500) (by rw[K.o,r.o];have:=AO.o;omega);have B0:=D (Q97 (mC M)) (λc hc x u=>A1.o x (Ag _ (Aa _ (List.mem_flatMap.2 ⟨c,hc,u⟩))));have AA:=D (Q14 M held (mX M)=(((Bz cs).all λi=>Q51 (Q9 cs i) (Jk (Z8 M++held) (mX M) i)) && ((Bz cs).all (Q7k cs) && Zo (mC M) (Qx (mC M)) (mF M)))) (by
  rw[Qdr (by rw[K.o];exact BB.o) (by rw[K.o,r.o];exact AO.o) (by rw[K.o];exact AW.o) (by rw[<-A6.o];exact AX.o) (by rw[r.o];exact AV.o)];unfold Qd7;rw[K.o,<-Bool.and_assoc];congr 1
  rw[Ev];simp only[Bi,List.all_eq_true];exact⟨λh=>⟨λi Y=>(h i Y).1,λi Y=>(h i Y).2⟩,λh i Y=>⟨h.1 i Y,h.2 i Y⟩⟩)
 clear A7 AD y A0 J A8 O;cases u1:(Bz cs).all λi=>Q51 (Q9 cs i) (Jk (Z8 M++held) (mX M) i)with
 |false=>
  have g:=qh u1;go_wp2_with((go_at_call 127;(with_reducible refine jR (Qqk b o M held ph ch (T.o _ P) (HH.o.kb (Q0 H P)) HZ.o.2.2 S.o.1 S.o.2.1 S.o.2.2 A1 A9) λw9 B=> ?_);have U:=qh (Q0 P B);clear B;rw[AE.o,g.o]))
  go_ret;exact⟨Q2 (by rw[AA.o,g.o];rfl),Q0 H U⟩
 |true=>
 have g:=qh u1;clear u1;cases f1:Zo (mC M) (Qx (mC M)) (mF M)with
 |false=>
  have z:=qh f1;go_wp2_with(first|((go_at_call 127;(with_reducible refine jR (Qqk b o M held ph ch (T.o _ P) (HH.o.kb (Q0 H P)) HZ.o.2.2 S.o.1 S.o.2.1 S.o.2.2 A1 A9) λw9 B=> ?_);have U:=qh (Q0 P B);clear B;rw[AE.o,g.o];clear p0 E F;obtain⟨p0,E,F⟩:=L.o _ U))|((go_at_call 128;(with_reducible refine jR (Qi6 b o M (T.o _ U)) λwA B=> ?_);have A2:=qh (Q0 U B);clear B;rw[z.o]))|fail)
  go_ret;exact⟨Q2 (by rw[AA.o,z.o,Ej,Ej]),Q0 H A2⟩
 |true=>
 have z:=qh f1;clear f1;go_upto_region 8 with(first|((go_at_call 127;(with_reducible refine jR (Qqk b o M held ph ch (T.o _ P) (HH.o.kb (Q0 H P)) HZ.o.2.2 S.o.1 S.o.2.1 S.o.2.2 A1 A9) λw9 B=> ?_);have U:=qh (Q0 P B);clear B;rw[AE.o,g.o];clear p0 E F;obtain⟨p0,E,F⟩:=L.o _ U))|((go_at_call 128;(with_reducible refine jR (Qi6 b o M (T.o _ U)) λwA B=> ?_);have A2:=qh (Q0 U B);clear B;rw[z.o];clear p0 E F;obtain⟨p0,E,F⟩:=L.o _ A2))|fail)
 clear P U p0 E F;go_loopw [71] (λi wr=>∃(j:Nat),j<=cs/\i=I Z j/\Hd (∀q:Nat,q<j->Q7k cs q=Bn)/\Hd (G,wr)) (λi _=>cs.length-(By i).toNat);case atStart=>exact⟨0,Ak _,rfl,λq h=>absurd h (Dh _),A2.o⟩
 obtain⟨j,hj,rfl,HK,HB⟩:=hrel;clear A2;by_cases AF:j<cs
 ·obtain⟨p0,E,F⟩:=L.o _ HB.o
  obtain⟨b2,o2,rfl,hA⟩:=Rd.elem (HC.o.kb (Q0 H HB)) j AF;generalize u:cs[j]=x at hA;obtain⟨k,l,v,d,ws⟩:=x;have n:=D (Q9 cs j=(k,l,v,d,ws)) (by rw[Qy AF,u]);clear u;obtain⟨pd,cd,pw,cw,⟨e0,e1,e2,e3,e4⟩,-,-,-⟩:=hA.agent;have HA:=qh (hA.rdv e3 e4);simp only[Ty.sz,Bj]at e0 e1 e2 e3 e4;have V:=Ac wr _ e0;simp only at V;clear hA;go_upto_region 10 with fail
  refine Qp λW5 AG=> ?_;have A0:=D (wr,W5) (by rw[AG];go_grown);obtain⟨g0,g1,g2,g3,g4⟩:=Q11 wr k l v (A pd d cd) (A pw ws cw) 172;rw[<-AG]at g0 g1 g2 g3 g4;clear AG e0 e1 e2 e3 e4 V p0 E F;have AH:=qh (HA.o.kb A0);have AI:=qh (Q0 HB A0);by_cases AB:k=13
  ·have X:=D ((k==13)=Bn) (by simp[AB])
   have B1:=D (Zc (mC M) (2,(j:Int))=Bn) (by
    rw[K.o];have h1:Qxi (j:Int) 0 ((cs:Int)-1)=Bn:=Qj.2 (by omega);have h2:Q7 cs (j:Int)=Q9 cs j:=by simp[Q7]
    simp only[Zc,h1,h2,n.o,aK,X.o];rfl)
   have AC:=D (Qyn 2/\Qyn (j:Int)) (by unfold Qyn;omega);clear AB;cases ev:V7 cs (cs+1) (2,(j:Int))
   ·have HE:=D (V7 (mC M) ((mC M)+1) (2,(j:Int))=Bm) (by rw[K.o];exact ev)
    have A3:=D (Q7k cs j=Bm) (by simp only[Q7k,n.o,aK,X.o,ev];rfl);clear ev;go_wp2_with(first|((go_at_call 129;(with_reducible refine jR (Q18 [k,l,v,A pd d cd,A pw ws cw] AH) λw6 B=> ?_);have J:=qh (Q0 AI B);clear B;obtain⟨p0,E,F⟩:=L.o _ J;simp only[aK];rw[X.o]))|((go_at_call 130;(with_reducible refine(Qek b o M 2 (j:Int) (T.o _ J) AC.o.1 AC.o.2 B1 B0 S.o.2.1).mono ?_);rintro e w7 ⟨t',a',rfl,B⟩;have O:=qh (Q0 J B);clear B;rw[HE.o]))|fail)
    go_ret;exact⟨Q2 (by rw[AA.o,g.o,z.o,J5 j AF A3.o];rfl),Q0 H (O.o.alloc O.o.size _)⟩
   have HE:=D (V7 (mC M) ((mC M)+1) (2,(j:Int))=Bn) (by rw[K.o];exact ev);have A3:=D (Q7k cs j=Bn) (by simp only[Q7k,n.o,aK,X.o,ev];rfl);clear ev;go_wp2_with(first|((go_at_call 129;(with_reducible refine jR (Q18 [k,l,v,A pd d cd,A pw ws cw] AH) λw6 B=> ?_);have J:=qh (Q0 AI B);clear B;obtain⟨p0,E,F⟩:=L.o _ J;simp only[aK];rw[X.o]))|((go_at_call 130;(with_reducible refine(Qek b o M 2 (j:Int) (T.o _ J) AC.o.1 AC.o.2 B1 B0 S.o.2.1).mono ?_);rintro e w7 ⟨t',a',rfl,B⟩;have O:=qh (Q0 J B);clear B;rw[HE.o]))|fail)
   go_roundw;case rel=>exact⟨j+1,by omega,by go_num,λq hq=>(by
    by_cases AJ:q=j
    ·subst AJ;exact A3.o
    exact HK.o q (by omega)),(show Bp G G _ from O.o.alloc O.o.size _)⟩
   simp[By];omega
  have X:=D ((k==13)=Bm) (by simp[AB]);have A3:=D (Q7k cs j=Bn) (by simp only[Q7k,n.o,aK,X.o];rfl);clear AB;go_wp2_with((go_at_call 129;(with_reducible refine jR (Q18 [k,l,v,A pd d cd,A pw ws cw] AH) λw6 B=> ?_);have J:=qh (Q0 AI B);clear B;obtain⟨p0,E,F⟩:=L.o _ J;simp only[aK];rw[X.o]))
  go_roundw;case rel=>exact⟨j+1,by omega,by go_num,λq hq=>(by
   by_cases AJ:q=j
   ·subst AJ;exact A3.o
   exact HK.o q (by omega)),J.o⟩
  simp[By];omega
 have BT:cs<=j:=by omega
 go_wp2
 go_ret;exact⟨Q2 (by rw[AA.o,g.o,z.o,Q1l λi Y=>HK.o i (by omega)];rfl),Q0 H HB⟩
def Qlt(w)(n:Int):Bv prog 161 #[n] w (oR w (!Qxi n 0 1000000000)):=by
 go_enter func161,ntmps161;go_wp2;all_goals(go_ret;exact⟨Q2 (by rw[Ev];first|(simp[Qxi];done)|(simp[Qxi];omega)),Ai _ _⟩)
def Q4p{w}(p c)(l:List Int)(h:Rd (.slice .int) w [A p l c] l):Bv prog 116 #[A p l c] w λe w'=>e=.returned (.bool (Vj l))/\(w,w'):=by
 have H:=qh h;have G:=D (Vw prog 161) (by intro _ _;kernel_rfl);have J:=D (∀(B:Bh) (x:Ty.int.den),x∈l->Bp w w B->Bv prog 161 (#[I Z x]++ #[]) B λe w'=>e=.returned (.bool (!(λn=>Qxi n 0 1000000000) x))/\(B,w')) (λB x _ _=>Qlt B x);clear h;by_cases q:l.length=7
 ·have C:((l:Int)==7)=Bn:=by simp[q]
  have E:=D (Vj l=l.all λn=>Qxi n 0 1000000000) (by unfold Vj;rw[C];rfl);clear q;go_enter func116,ntmps116;go_wp2_with((go_at_call 160;(with_reducible refine jR (Q24 l (λx=> !(λn=>Qxi n 0 1000000000) x) H G J) λw1 F=> ?_);have K:=qh F;clear F))
  go_ret;exact⟨Q2 (by rw[E.o,Q3u]),K.o⟩
 have C:((l:Int)==7)=Bm:=by simp;omega
 have E:=D (Vj l=Bm) (by unfold Vj;rw[C];rfl);go_enter func116,ntmps116;go_wp2;go_ret;exact⟨Q2 E.o.symm,Ai _ _⟩
def Qon{w}(vs){x:Qxb}(h:Rd Qh w vs x):Bv prog 70 #[.agg vs.toArray] w (oR w (Qz x)):=by
 obtain⟨B,C,xs,E,cs⟩:=x;obtain⟨px,cx,F,G,H,J,rfl,-⟩:=h.workerV;clear h;go_enter func70,ntmps70;go_wp2;all_goals(go_ret;exact⟨Q2 (by simp_all[Qz,wP]),by go_grown⟩)
def Qcz{w}(vs){x:Qxb}(n:Nat)(h:Rd Qh w vs x):Bv prog 68 #[.agg vs.toArray,n] w (oR w (Y4 n x)):=by
 obtain⟨E,F,xs,B,cs⟩:=x;obtain⟨px,cx,U,V,P,S,rfl,-,-,-,⟨-,-,T⟩⟩:=h.workerV;have W:=qh T;clear h T;obtain⟨C,H⟩:∃C,C=Vj cs:=⟨_,rfl⟩;have a:=qh H.symm;have b:=D (Y4 n (E,F,xs,B,cs)=(!(decide (E<1)||decide (4<E)||decide (F<0)||decide ((n:Int)<=F)|| !C||decide ((1500:Int)<(B:Int))) && (E==1||(((xs:Int)==0) && ((B:Int)==0))))) (by show((Qxi E 1 4 && (Qxi F 0 ((n:Int)-1) && (Vj cs && decide (B.length<=1500)))) && (E==1||(xs.length==0 && B.length==0)))=_;rw[<-H];rw[show(xs.length==0)=((xs:Int)==0)by rw[Ev];simp,show(B.length==0)=((B:Int)==0)by rw[Ev];simp];generalize ((xs:Int)==0)=X;generalize ((B:Int)==0)=Y;generalize hp:(E==1)=c;clear hp;rw[Ev];cases C<;>cases X<;>cases Y<;>cases c<;>simp[Qxi]<;>omega);clear H;go_enter func68,ntmps68;go_upto_region 1 with fail
 refine Qp λd J=> ?_;have K:=D (w,d) (by rw[J];go_grown);obtain⟨L,f,M,O,g⟩:=Q11 w E F (A px xs cx) (A U B V) (A P cs S) 116;rw[<-J]at L f M O g;clear J;go_wp2_with((go_at_call 116;(with_reducible refine jR (Q4p P S cs (W.o.kb K)) λw1 G=> ?_);rw[a.o];have L:=jC G L;have M:=jC G M;have O:=jC G O;have i:=qh (Q0 K G);clear G))
 all_goals(go_ret;exact⟨Q2 (by rw[b.o];first|(simp_all;done)|(simp_all;intro h;omega)|(rw[Ev];simp_all;done)|(rw[Ev];simp_all;omega)|grind),by first|exact i.o|exact K.o⟩)
theorem Rd.poolV{w vs}{cs:List Qb}{f C E:Int}{xs:List Wd}{B:List Qxb}{F:Int}(h:Rd Qv w vs ((cs,f,(C,E),xs),B,F)):
  ∃(G:Option Addr) (H:Nat) (px:Option Addr) (cx:Nat) (J:Option Addr) (K:Nat),vs=[A G cs H,f,C,E,A px xs cx,A J B K,F]/\(Qyn f/\Qyn C/\Qyn E/\Qyn F)/\
   (cs<=Bu/\Rd (.slice Q4) w [A G cs H] cs)/\(xs<=Bu/\Rd (.slice Q5) w [A px xs cx] xs)/\(B<=Bu/\Rd (.slice Qh) w [A J B K] B):=by
 obtain⟨_,_,rfl,⟨_,_,rfl,L,_,_,rfl,⟨rfl,M⟩,_,_,rfl,⟨_,_,rfl,⟨rfl,O⟩,⟨rfl,P⟩⟩,S⟩,_,_,rfl,T,⟨rfl,U⟩⟩:=h;grind[Jh]
theorem Q0t{w:Bh}{b:Nat}{T B C E F G H J}(h:w.heap[b]?=R (.cells #[B,C,E,F,G,H,J] T)):(w,b,0,B)/\(w,b,1,C)/\(w,b,2,E)/\(w,b,3,F)/\(w,b,4,G)/\(w,b,5,H)/\(w,b,6,J):=
 ⟨Q6 h rfl,Q6 h rfl,Q6 h rfl,Q6 h rfl,Q6 h rfl,Q6 h rfl,Q6 h rfl⟩
def At.ofBox{t w b T us x}(h:w.heap[b]?=R (.cells us.toArray T (0,0)))(B:Rd t w us x):At t w b 0 x:=
 ⟨us,B.length,λj C=>(by rw[Nat.zero_add];exact Q6 h (by simp[List.getElem?_eq_getElem C])),B⟩
def Qez{w}{cs:List Qb}{f B C}{xs:List Wd}{u v}(E:Rd (.slice Q4) w [u] cs)(F:Qyn f)(G:Qyn B)(H:Qyn C)(J:Rd (.slice Q5) w [v] xs):Rd Qq w [u,f,B,C,v] (cs,f,(B,C),xs):=
 ⟨[_],[_,_,_,_],rfl,E,[_],[_,_,_],rfl,⟨rfl,F⟩,[_,_],[_],rfl,⟨[_],[_],rfl,⟨rfl,G⟩,⟨rfl,H⟩⟩,J⟩
theorem Qab{α p}{xs:List α}{k:Nat}(h:k<xs):(xs.take (k+1)).countP p=(xs.take k).countP p+(if p xs[k]then 1 else 0):=by
 rw[An h,List.countP_append];simp[List.countP_cons]
theorem Qbr{w}(vs)(p:Ye)(h:Rd Qv w vs p)(hz:(Z8 (pM p)).length+(Jd (pW p)).length<=10000000)(AH:(Qr (pW p)).length<=10000000):
  Bv prog 32 #[.agg vs.toArray] w (oR w (Jw p)):=by
 have H:=qh h;obtain⟨⟨cs,f,⟨C,E⟩,xs⟩,B,G⟩:=p;obtain⟨a,b,px,cx,pk,ck,rfl,⟨i0,i1,i2,i3⟩,⟨BP,AI⟩,⟨B3,AJ⟩,⟨B4,AK⟩⟩:=h.poolV;have HC:=qh AI;have HX:=qh AJ;have HK:=qh AK;have HI:=D (Qyn f/\Qyn C/\Qyn E/\Qyn G) (⟨i0,i1,i2,i3⟩);have HZ:=D ((Z8 (cs,f,(C,E),Qr B)).length+(Jd B).length<=10000000) (hz);have B5:=D ((Qr B).length<=10000000) (AH);have HV:=D (Jw ((cs,f,(C,E),xs),B,G)=((Qxi B 1 4 && xs.length==0) && (B.all (Y4 B) && ((((B.countP Qz:Nat):Int)==G) && Q14 (cs,f,(C,E),Qr B) (Jd B) (Qr B))))) (rfl);have BQ:=i3.bd;unfold Bu at B4 B3;clear h AI AJ AK hz AH i0 i1 i2 i3;obtain⟨K,A2⟩:∃K,K=w.alloc (.cells #[A a cs b,f,C,E,A px xs cx,A pk B ck,G] 46):=⟨_,rfl⟩;have U:=D (Bp w w K) (by rw[A2];go_grown);have AL:=D (K,oC w.heap.size #[A a cs b,f,C,E,A px xs cx,A pk B ck,G] 46) (by rw[A2];exact Bg w _);have A3:=qh A2;clear A2;have A4:=D (∀W,Bp K.heap.size K W->W.heap[w.heap.size]?=R (.cells #[A a cs b,f,C,E,A px xs cx,A pk B ck,G] 46)) (λW F=>Qf AL F);have AM:=D (∀W,Bp K.heap.size K W->At Qv W w 0 ((cs,f,(C,E),xs),B,G)) (λW F=>At.ofBox (us:=[A a cs b,f,C,E,A px xs cx,A pk B ck,G]) (A4.o W F) (H.o.kb (Q0 U F)));obtain⟨p0,g,k,m,n,o,r⟩:=Q0t AL;by_cases q0:B.length<1
 ·have V:=D (Jw ((cs,f,(C,E),xs),B,G)=Bm) (by
   rw[HV.o,show Qxi B 1 4=Bm from Q13.2 (by omega)];rfl)
  have AN:(B:Int)<1:=by omega
  go_enter func32,ntmps32;go_upto_region 1 with fail
  rw[<-A3.o];go_wp2;go_ret;exact⟨Q2 V.o.symm,U.o⟩
 have AN:¬(B:Int)<1:=by omega
 by_cases q1:4<B.length
 ·have V:=D (Jw ((cs,f,(C,E),xs),B,G)=Bm) (by
   rw[HV.o,show Qxi B 1 4=Bm from Q13.2 (by omega)];rfl)
  have AO:(4:Int)<B:=by omega
  go_enter func32,ntmps32;go_upto_region 1 with fail
  rw[<-A3.o];go_wp2;go_ret;exact⟨Q2 V.o.symm,U.o⟩
 have AO:¬(4:Int)<B:=by omega
 by_cases q2:0<xs.length
 ·have V:=D (Jw ((cs,f,(C,E),xs),B,G)=Bm) (by
   rw[HV.o,show(xs.length==0)=Bm by rw[beq_eq_false_iff_ne];omega];simp)
  have AP:(0:Int)<xs:=by omega
  go_enter func32,ntmps32;go_upto_region 1 with fail
  rw[<-A3.o];go_wp2;go_ret;exact⟨Q2 V.o.symm,U.o⟩
 have AP:¬(0:Int)<xs:=by omega
 have V:=D (Jw ((cs,f,(C,E),xs),B,G)=(B.all (Y4 B) && ((((B.countP Qz:Nat):Int)==G) && Q14 (cs,f,(C,E),Qr B) (Jd B) (Qr B)))) (by rw[HV.o,show Qxi B 1 4=Bn from Qj.2 (by omega),show(xs.length==0)=Bn by rw[beq_iff_eq];omega];rfl);have BR:B.length<=4:=by omega
 go_enter func32,ntmps32;go_upto_region 1 with fail
 rw[<-A3.o];go_upto_region 5 with fail
 clear q0 q1 q2 AN AO AP p0 g k m n o r;go_loopw [3,27] (λu i wr=>∃(j:Nat),j<=B/\i=I Z j/\u=I Z (((B.take j).countP Qz:Nat):Int)/\Hd (∀q (d:q<B.length),q<j->Y4 B B[q]=Bn)/\Hd (K,wr)) (λ_ i _=>B.length-(By i).toNat);case atStart=>exact⟨0,Ak _,rfl,by simp,λq _ h=>absurd h (Dh _),Ai _ _⟩
 obtain⟨j,hj,rfl,rfl,AQ,HB⟩:=hrel;obtain⟨p0,g,k,m,n,o,r⟩:=Q0t (A4.o _ HB);have A7:=Ac wr _ p0;simp only at A7;by_cases A8:j<B
 ·obtain⟨b1,o1,rfl,hA⟩:=Rd.elem (HK.o.kb (Q0 U HB)) j A8
  have HS:=qh (Qab (p:=Qz) A8);have AR:=Dn (p:=Qz) (l:=B.take j);rw[Cf]at AR;have B6:=D (B[j]∈B) (As A8);have B7:=D (∀q (d:q<B.length),q<j+1->Y4 B B[j]=Bn->Y4 B B[q]=Bn) (λq d AS h=>by
   by_cases e:q=j
   ·subst e;exact h
   exact AQ.o q d (by omega))
  generalize B[j]=x at *
  obtain⟨M,O,P,S,T⟩:=x;obtain⟨s,t,v,y,z,A0,⟨e0,e1,e2,e3,e4⟩,-,-,-,-⟩:=hA.worker;have HA:=qh (hA.rdvW e2 e3 e4);simp only[Ty.sz,Bj]at e0 e1 e2 e3 e4;have AT:=Ac wr _ e0;simp only at AT;generalize A5:(B.take j).countP Qz=cn at *
  clear hA A5;go_upto_region 7 with fail
  refine Qp λJ Y=> ?_;have A6:=D (wr,J) (by rw[Y];go_grown);have A1:=qh (Q0 HB A6);obtain⟨g0,g1,g2,g3,g4⟩:=Q11 wr M O (A s P t) (A v S y) (A z T A0) 116;rw[<-Y]at g0 g1 g2 g3 g4;clear Y e0 e1 e2 e3 e4 AT p0 g k m n o r A7;obtain⟨p0,g,k,m,n,o,r⟩:=Q0t (A4.o _ A1);have A9:=D (∀W,Bp J J W->Rd Qh W [M,O,A s P t,A v S y,A z T A0] (M,O,P,S,T)) (λW F=>HA.o.kb (Q0 A6 F));have B8:=D ((J,wr.heap.size,0,M)/\(J,wr.heap.size,1,O)/\(J,wr.heap.size,2,A s P t)/\(J,wr.heap.size,3,A v S y)/\(J,wr.heap.size,4,A z T A0)) (⟨g0,g1,g2,g3,g4⟩);cases hok:Y4 B (M,O,P,S,T)with
  |false=>
   have HO:=qh hok;have HF:=D (Jw ((cs,f,(C,E),xs),B,G)=Bm) (by rw[V.o,Q8e B6 hok];rfl);go_wp2_with((go_at_call 68;(with_reducible refine jR (Qcz [M,O,A s P t,A v S y,A z T A0] B (A9.o _ (Ai _ _))) λw6 F=> ?_);have L:=qh F;clear F;rw[HO.o]))
   go_ret;exact⟨Q2 HF.o.symm,Q0 (Q0 U A1) L⟩
  |true=>
   have HO:=qh hok;clear hok;cases hac:Qz (M,O,P,S,T)
   all_goals
    have AU:=qh hac;clear hac;go_wp2_with(first|((go_at_call 68;(with_reducible refine jR (Qcz [M,O,A s P t,A v S y,A z T A0] B (A9.o _ (Ai _ _))) λw6 F=> ?_);have L:=qh F;clear F;rw[HO.o];obtain⟨g0,g1,g2,g3,g4⟩:=B8.o;have g0:=jC L g0;have g1:=jC L g1;have g2:=jC L g2;have g3:=jC L g3;have g4:=jC L g4))|((go_at_call 70;(with_reducible refine jR (Qon [M,O,A s P t,A v S y,A z T A0] (A9.o _ L)) λw7 F=> ?_);have B9:=qh (Q0 L F);clear F;rw[AU.o]))|((go_at_call 69;(with_reducible refine jX (Q3f _) ?_);first|rw[show Q22 Bn=1 from rfl]|rw[show Q22 Bm=0 from rfl]))|fail)
    go_roundw;case rel=>exact⟨j+1,by omega,by go_num,by rw[HS.o,AU.o];simp,(λq d AS=>B7.o q d AS HO),Q0 A1 B9⟩
    simp[By];omega
 have AV:j=B:=by omega
 have BA:=D (B.all (Y4 B)=Bn) (Q8w λq d=>AQ.o q d (by omega));have A5:(B.take j).countP Qz=B.countP Qz:=by rw[AV,List.take_length]
 rw[A5];have AW:=D (Jw ((cs,f,(C,E),xs),B,G)=((((B.countP Qz:Nat):Int)==G) && Q14 (cs,f,(C,E),Qr B) (Jd B) (Qr B))) (by rw[V.o,BA.o];rfl);have AR:=Dn (p:=Qz) (l:=B);generalize B.countP Qz=cn at *
 clear A5 AV;rename Bh=>wq
 go_upto_region 12 with fail
 refine Qp λJ Y=> ?_;have A6:=D (wq,J) (by rw[Y];go_grown);have BB:=D (J,oC wq.heap.size #[A a cs b,f,C,E,A px xs cx] 43) (by rw[Y];exact Bg wq _);have BC:=D (wq.heap.size<J) (by rw[Y];simp);clear Y p0 g k m n o r A7;have A1:=qh (Q0 HB A6);have AX:=D ((Qr (pW ((cs,f,(C,E),xs),B,G))).length<=100000000) (by have:=B5.o;show(Qr B).length<=_;omega);have BD:=D ((Jd (pW ((cs,f,(C,E),xs),B,G))).length<=100000000) (by have:=HZ.o;show(Jd B).length<=_;omega);have BE:=qh (HB.o.size);have BS:=qh (U.o.size);go_upto_region 13 with((go_at_call 71;(with_reducible refine(Qno w 0 (AM.o _ A1) AX).mono ?_);rintro e w6 ⟨BF,rfl,ho,F⟩;have AA:=D (Qxu Q5 143 J w6 BF (Qr B)) (ho);have L:=qh F;have AY:=qh (Qf BB F);clear ho F;obtain⟨AB,AC,rfl,-,-⟩:=AA.o.form;obtain⟨⟨m0,m1,m2,m3,m4⟩,mf⟩:=Yf AY))
 refine Qp λW7 AD=> ?_;have AZ:=D (Q1 (λc=>c=wq.heap.size) w6 W7) (by rw[AD];exact V1 (X:=λc=>c=wq.heap.size) (Q1.refl _ _) rfl _);have BG:=D (W7,oC wq.heap.size #[A a cs b,f,C,E,A AB (Qr B) AC] 43) (by rw[AD];exact Qdv AY);clear AD m0 m1 m2 m3 m4 mf;have B0:=qh (Q0 A1 L);have AE:=D (K,W7) (B0.o.trans (AZ.o.below B0.o.size λc hc=>by rw[hc];exact BE.o));have AF:=qh (Q0 U AE);have BH:=D (Qxu Q5 143 J W7 (A AB (Qr B) AC) (Qr B)) (AA.o.frame AZ λi hi e=>by have:=(AA.o.block i hi).1;have:=BC.o;omega);have BI:=D (At Qq W7 wq 0 (cs,f,(C,E),Qr B)) (At.ofBox (us:=[A a cs b,f,C,E,A AB (Qr B) AC]) BG (Qez (HC.o.kb AF) HI.o.1 HI.o.2.1 HI.o.2.2.1 (BH.o.rd rfl)));obtain⟨p0,g,k,m,n,o,r⟩:=Q0t (A4.o _ AE);have BJ:=D (∀c∈mC (cs,f,(C,E),Qr B),(aW c).length<=100000000) (λc hc=>by have:=Qk9 hc;have:=HZ.o;omega);have BK:=D ((mX (cs,f,(C,E),Qr B)).length<=100000000) (AX.o);by_cases qa:(cn:Int)=G
 ·have qb:((cn:Int)==G)=Bn:=by simpa using qa
  have AG:=D (Jw ((cs,f,(C,E),xs),B,G)=Q14 (cs,f,(C,E),Qr B) (Jd B) (mX (cs,f,(C,E),Qr B))) (by rw[AW.o,qb];rfl);clear qa;go_wp2_with(first|((go_at_call 73;(with_reducible refine(Qus w 0 (AM.o _ AE) BD).mono ?_);rintro e w8 ⟨BL,rfl,ho,F⟩;have B1:=D (Qxu Q5 40 W7 w8 BL (Jd B)) (ho);have B2:=qh F;clear ho F;obtain⟨BM,BN,rfl,-,-⟩:=B1.o.form))|((go_at_call 72;(with_reducible refine jR (Qu8 wq 0 (Jd B) BM BN (BI.o.kb B2) (B1.o.rd rfl) HZ BJ BK) λw9 F=> ?_);have BO:=qh F;clear F))|fail)
  go_ret;exact⟨Q2 (by rw[AG.o]),Q0 (Q0 AF B2) BO⟩
 have qb:((cn:Int)==G)=Bm:=by simpa using qa
 have AG:=D (Jw ((cs,f,(C,E),xs),B,G)=Bm) (by rw[AW.o,qb];rfl);go_wp2
 go_ret;exact⟨Q2 AG.o.symm,AF.o⟩
def Q3e{w}(p0 C)(bk:List Qy0)(vs)(p:Ye)(B:Rd (.slice Jl) w [A p0 bk C] bk)(h:Rd Qv w vs p)(F:(Z8 (pM p)).length+(Jd (pW p)).length<=10000000)(G:(Qr (pW p)).length<=10000000):
  Bv prog 74 #[A p0 bk C,.agg vs.toArray] w (oR w (Q0s bk && Jw p)):=by
 have H:=qh h;have M:=qh B;obtain⟨P,O⟩:∃P,P=p:=⟨_,rfl⟩;obtain⟨⟨cs,f,⟨S,T⟩,xs⟩,U,V⟩:=p;obtain⟨W,X,px,cx,Y,a,rfl,-⟩:=h.poolV;rw[<-O]at H F G⊢;have b:=qh (And.intro F G);clear h B F G O;cases hk:Q0s bk with
 |false=>
  have J:=qh hk;clear hk;go_enter func74,ntmps74;go_wp2_with((go_at_call 131;(with_reducible refine jR (Qa1 p0 C bk (M.o.kb (by go_grown))) λw1 B=> ?_);have E:=D (w,w1) (Q0 (by go_grown) B);clear B;rw[J.o]))
  go_ret;exact⟨rfl,E.o⟩
 |true=>
  have J:=qh hk;clear hk;go_enter func74,ntmps74;go_upto_region 1 with fail
  refine Qp λc K=> ?_;have L:=D (w,c) (by rw[K];go_grown);have d:=D (c,oC w.heap.size #[A W cs X,f,S,T,A px xs cx,A Y U a,V] 46) (by rw[K];exact Bg w _);clear K;go_wp2_with(first|((go_at_call 131;(with_reducible refine jR (Qa1 p0 C bk (M.o.kb L)) λw1 B=> ?_);have E:=qh B;have g:=qh (Qf d.o B);clear B;rw[J.o];obtain⟨p0,j,k,l,m,n,o⟩:=Q0t g.o))|((go_at_call 32;(with_reducible refine jR (Qbr [A W cs X,f,S,T,A px xs cx,A Y U a,V] P (H.o.kb (Q0 L E)) b.o.1 b.o.2) λw2 B=> ?_);have i:=qh B;clear B))|fail)
  go_ret;exact⟨rfl,Q0 (Q0 L E) i.o⟩
theorem Zl{w:Bh}{b:Nat}{o}(h:w.heap[b]?=R o):b<w:=(Al.1 h).1
def Qxc(cs:List Qb)(p:Wd):Wd:=if(Q07 (Q7 cs p.1) (Q7 cs p.2)).2 then(p.2,p.1)else p
def Qr3{cs p}(C:Zm (aK (Q7 cs p.1)) (aL (Q7 cs p.1))=Bn)(E:Zm (aK (Q7 cs p.2)) (aL (Q7 cs p.2))=Bn):
  (Q07 (Q7 cs p.1) (Q7 cs p.2)).1=Qu cs p/\(Qu cs p≠8->Qxc cs p=Zi cs p):=by
 obtain⟨F,G⟩:=Qpf C E;have B:(Q07 (Q7 cs p.1) (Q7 cs p.2)).1=Qu cs p:=F;refine⟨B,λH=> ?_⟩;unfold Qxc Zi;rw[G (by rw[B];exact H)];by_cases e:Vg (aK (Q7 cs p.1)) (aL (Q7 cs p.1)) (aK (Q7 cs p.2)) (aL (Q7 cs p.2))=2
 ·rw[e];rfl
 rw[decide_eq_false e,show(Vg (aK (Q7 cs p.1)) (aL (Q7 cs p.1)) (aK (Q7 cs p.2)) (aL (Q7 cs p.2))==2)=Bm by simpa using e]
def Qds{w}(b o)(m:Qyb)(h:At Qq w b o m)(p q)(T:Qyl (mC m) (p,q))(Y:(aW (Q7 (mC m) p)).length<=100000000)(a:(aW (Q7 (mC m) q)).length<=100000000):
  Bv prog 248 #[(b,o),.agg #[p,q]] w (oR w (.tuple #[I Z (Q07 (Q7 (mC m) p) (Q7 (mC m) q)).1,I Z (Qxc (mC m) (p,q)).1,I Z (Qxc (mC m) (p,q)).2])):=by
 have d:=qh h;have f:=qh T;clear h;obtain⟨r,E⟩:∃r,Q07 (Q7 (mC m) p) (Q7 (mC m) q)=r:=⟨_,rfl⟩;have g:=D (Qxc (mC m) (p,q)=if r.2 then(q,p)else(p,q)) (by unfold Qxc;rw[<-E]);have i:=qh E;rw[E];clear T E;obtain⟨c,s⟩:=r;go_enter func248,ntmps248;go_upto_region 1 with fail
 refine Qp λW F=> ?_;have U:=D (w,W) (by rw[F];go_grown);have L:W.heap[w.heap.size]?=R (.cells #[p,q] 143):=by rw[F];exact Bg w _
 have x:=qh L;obtain⟨⟨B,G⟩,-⟩:=Zj L;have y:=D (W.heap.size=w+1) (by rw[F];simp);clear F L;go_upto_region 2 with((go_at_call 268;(with_reducible refine(Qql W b o m (d.o.kb U) p q f.o Y a).mono ?_);rintro e w1 ⟨vs,rfl,H,C⟩;obtain⟨V,X,rfl,-,-,H⟩:=Jh H;have j:=qh H;have M:=qh C;clear H C))
 refine Qp λJ O=> ?_;have K:=D (w1,J) (by rw[O];go_grown);have P:J.heap[w1.heap.size]?=R (.cells #[A V (Qm3 m p q) X] 79):=by rw[O];exact Bg w1 _
 have k:=D (At Jl J w1 0 (Qm3 m p q)) (At.ofBox (us:=[A V (Qm3 m p q) X]) P (j.o.kb K));have l:=qh (Q0 (Q0 U M) K);have B:=jC (Q0 M K) B;have G:=jC (Q0 M K) G;have z:=Zl P;have n:=D (((0:Int)<=0/\(0:Int)<(Qm3 m p q))/\(0:Int)<=1/\(1:Int)<(Qm3 m p q)) (by simp[Qm3]);clear O P;go_upto_region 3 with((go_at_call 271;(with_reducible refine jR (Qgx J w1 0 (Qm3 m p q) k.o 0 1 n.o) λt C=> ?_);rw[show Q07 (Q7 (Qm3 m p q) 0) (Q7 (Qm3 m p q) 1)=(c,s)from i.o];have S:=qh C;clear C))
 have B:=jC S B;have G:=jC S G;have u:=qh (Q0 l.o S);have v:=Ac t _ B;simp only at v;cases s
 all_goals
  go_wp2
  go_quiet(fail)
  go_wp2;refine Ce (by simp[results,results248,go_sem];first|rfl|done) rfl ?_;refine⟨?_, ?_⟩
  ·rw[g.o];rfl
  first|exact Q8 u.o _|go_grown
theorem Qh6{B}{C:List Nat}{c}(E:B.Nodup)(F:C.Nodup)(G:∀b∈B,b<c)(H:∀b∈C,c<=b):(B++C).Nodup:=by
 grind
theorem Qm2{B C:List Nat}(h:(B++C).Nodup):(C++B).Nodup:=by
 grind
def Qy7.agentA{B w1 F k l v H J K L M O}{d:List Int}{ws:List Wd}(G:Qyn k/\Qyn l/\Qyn v)(S:Qy7 (.slice .int) B w1 [A H K L] d)(T:Qy7 (.slice Q5) w1 F [A J M O] ws)(P:Bp w1 w1 F)(e:B<=w1):
  Qy7 Q4 B F [k,l,v,A H K L,A J M O] (k,l,v,d,ws):=by
 obtain⟨U,V,W,E⟩:=S;obtain⟨X,Y,a,c⟩:=T;refine⟨U++X,Ow.mkAgent G.1 G.2.1 G.2.2 (V.kept λb C=>P.block b (E b C).2) Y,Qh6 W a (λb C=>(E b C).2) (λb C=>(c b C).1),λb C=> ?_⟩;rcases At0.1 C with C|C
 ·exact⟨(E b C).1,Ap (E b C).2 P.size⟩
 grind
def Qy7.agentB{B}{w1:Bh}{F k l v H J K L M O}{d:List Int}{ws:List Wd}(G:Qyn k/\Qyn l/\Qyn v)(S:Qy7 (.slice .int) w1 F [A H K L] d)(T:Qy7 (.slice Q5) B w1 [A J M O] ws)(P:Bp w1 w1 F)(e:B<=w1):
  Qy7 Q4 B F [k,l,v,A H K L,A J M O] (k,l,v,d,ws):=by
 obtain⟨U,V,W,X⟩:=S;obtain⟨Y,a,c,E⟩:=T;refine⟨U++Y,Ow.mkAgent G.1 G.2.1 G.2.2 V (a.kept λb C=>P.block b (E b C).2),Qm2 (Qh6 c W (λb C=>(E b C).2) (λb C=>(X b C).1)),λb C=> ?_⟩;rcases At0.1 C with C|C
 ·grind
 exact⟨(E b C).1,Ap (E b C).2 P.size⟩
def Qgr{w}(vs)(x:Qb)(h:Rd Q4 w vs x)(U:(aD x).length<=100000000/\(aW x).length<=100000000):
  Bv prog 300 #[.agg vs.toArray] w (Q2w Q4 w x):=by
 obtain⟨k,l,v,d,ws⟩:=x;obtain⟨V,X,a,b,rfl,f,⟨-,d2,r⟩,⟨-,w2,s⟩⟩:=h.agentV;have t:d.length<=100000000:=U.1;have u:ws.length<=100000000:=U.2;have y:=qh f;have HD:=qh r;have HW:=qh s;unfold Bu at d2 w2;clear h U r s f;go_enter func300,ntmps300;go_upto_region 1 with fail
 refine Qp λW M=> ?_;have g:=D (w,W) (by rw[M];go_grown);have O:=Jt w #[k,l,v,A V d X,A a ws b] #[(),(),(),jN,jN] 153 153;rw[<-M]at O;have z:=qh O.1;have A4:=qh O.2;obtain⟨⟨k0,k1,k2,k3,k4⟩,kf⟩:=Yf z.o;have A0:=D (W.heap.size=w+2) (by rw[M];simp);have AA:w.heap.size<W:=by have:=A0.o;omega
 clear M O;have J:=D (Bp W W W.drew) ((Ai _ _).drew);have A1:=D (∀E,Bp W W E->Rd (.slice .int) E [A V d X] d) (λE B=>HD.o.kb (Q0 g.o B));have A2:=D (∀E,Bp W W E->Rd (.slice Q5) E [A a ws b] ws) (λE B=>HW.o.kb (Q0 g.o B));have P:=D (∀E,Bp W W E->E.heap[w.heap.size]?=R (.cells #[k,l,v,A V d X,A a ws b] 153)) (λE B=>Qf z.o B)
 go_region_with
  (first
   |((go_at_call 303;(with_reducible refine(Qc2 w1 _ ws (A2.o _ S) u).mono ?_);rintro e L ⟨v2,rfl,C,B⟩;obtain⟨pb,F,rfl⟩:=V6 C;have HN:=qh (Qy7.agentA y.o A5 C B S.o.size);have K:=qh (Q0 S B);obtain⟨⟨j,m,n,o,p⟩,sf⟩:=Yf (P.o _ K);clear C B))
   |((go_at_call 175;(with_reducible refine(Q0e w2 _ d (A1.o _ T) t).mono ?_);rintro e L ⟨v2,rfl,C,B⟩;obtain⟨G,H,rfl⟩:=V6 C;have HN:=qh (Qy7.agentB y.o C A6 B T.o.size);have K:=qh (Q0 T B);obtain⟨⟨j,m,n,o,p⟩,sf⟩:=Yf (P.o _ K);clear C B))
   |((go_at_call 175;(with_reducible refine(Q0e _ _ d (A1.o _ J) t).mono ?_);rintro e w1 ⟨v1,rfl,C,B⟩;obtain⟨G,H,rfl⟩:=V6 C;have A5:=qh (C.lo (show W.heap.size<=_ from J.o.size));have S:=qh (Q0 J B);obtain⟨⟨r0,r1,r2,r3,r4⟩,rf⟩:=Yf (P.o _ S);clear C B))
   |((go_at_call 303;(with_reducible refine(Qc2 _ _ ws (A2.o _ J) u).mono ?_);rintro e w2 ⟨v1,rfl,C,B⟩;obtain⟨pb,F,rfl⟩:=V6 C;have A6:=qh (C.lo (show W.heap.size<=_ from J.o.size));have T:=qh (Q0 J B);obtain⟨⟨r0,r1,r2,r3,r4⟩,rf⟩:=Yf (P.o _ T);clear C B))
   |fail)
 all_goals
  have q:=Qf A4 K;obtain⟨⟨z0,z1,z2,z3,z4⟩,zf⟩:=Yf q;go_wp2_with fail
  have A3:Q1 (λc=>c=w) L ((L.setCell (w,3) (A G d H)).setCell (w,4) (A pb ws F)):=Q23 (Q23 (Q1.refl _ _));have A7:((L.setCell (w,3) (A G d H)).setCell (w,4) (A pb ws F)).heap[w.heap.size+1]?=R (.cells #[(),(),(),jN,jN] 153):=(A3.block _ (Zl q) (by omega)).trans q;have A8:=Q2u A7 k l v (A G d H) (A pb ws F);have A9:=Q0c ((L.setCell (w,3) (A G d H)).setCell (w,4) (A pb ws F)) (w+1) 0 k l v (A G d H) (A pb ws F);have hF:=(A3.mono (Y:=λc=>c=w\/c=w+1) λ_ h=> .inl h).trans (A9.mono λ_ h=> .inr h);have AB:=A0.o;refine Ce (v:=.agg #[k,l,v,A G d H,A pb ws F]) (by obtain⟨⟨j,m,n,o,p⟩,-⟩:=Yf A8;simp[results,results300,go_sem,j,m,n,o,p]) rfl ?_;refine⟨[_,_,_,_,_],rfl,(HN.o.frame hF (λi f=>by omega)).lo (by omega), ?_⟩;exact(Q0 g.o K).trans (hF.below (by have:=K.o.size;omega) (λc hc=>by omega))
end Go.Proofs.YtcjngpfigpglfaaGreatDoor
