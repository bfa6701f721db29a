import Derived.Test.YtcjngpfigpglfaaGreatDoorP02
set_option maxHeartbeats 0
set_option maxRecDepth 100000
set_option linter.all false
namespace Go.Proofs.YtcjngpfigpglfaaGreatDoor
open Go.RowKit Go.Proofs.Tryz
open Go.Value renaming int->I,slice->A
open Go.IntKind renaming i64->Z
open Option renaming none->N,some->R
open OC(oC)
open OR(oR)
open JN(jN)
open And renaming intro->Cj
open Bool renaming false->Bm,false_and->Ct,true_and->Ea,true->Bn,and_false->Ej,and_eq_true->Bi
open Exists renaming intro->Ee
open Go renaming Calls->Bv,maxLen->Bu,World->Bh,heap_alloc_new->Bg,bodyPost_ret->Ce,info_parts->Ck,wpQuiet_nil->Ek
open Go.RowKit renaming intOf->By,Below->Bp
open Go.RowKit.Below renaming heap_setCell->Es,grown->Ef
open Int renaming emod_nonneg->Fz,emod_lt_of_pos->Ez
open List renaming countP_le_length->Dn,length_take->Cf,length_cons->Br,replicate->Ch,length_replicate->Eh,length_singleton->Dg,length_append->Bo,length_nil->Em,setIfInBounds_toArray->Cn,set_cons_zero->Cv,set_cons_succ->Cx
open Nat renaming reduceAdd->Bj,zero_add->Cg,le_succ->Ii,not_lt_zero->Dh
def Q33{α p}{xs:List α}{k:Nat}(h:k<xs):(xs.take (k+1)).countP p=(xs.take k).countP p+(if p xs[k]then 1 else 0):=by
 rw[An h,List.countP_append];simp[List.countP_cons]
def Qsr{w b o}{m:Qyb}(h:At Qq w b o m):
  Bv prog 106 #[(b,o)] w λe w'=>e=.returned (Zo (mC m) (Qx (mC m)) (mF m))/\w=w':=by
 obtain⟨cs,f,⟨t,y⟩,xs⟩:=m;obtain⟨z,cc,_,_,⟨c0,c1,-,-,-⟩,⟨K,-,-⟩,⟨hc,U,L⟩,-⟩:=h.mem;unfold Bu at U;have M:=qh L;have V:=qh K;have A0:=Q2b (n:=cs) (by omega);clear L h K;go_enter func106,ntmps106;go_wp2
 go_loopw [3,4] (λu i wr=>∃(j:Nat),j<=cs/\i=I Z j/\u=I Z ((cs.take j).countP λc=>aK c==0:Nat)/\w=wr) (λ_ i _=>cs.length-(By i).toNat);case atStart=>exact⟨0,Ak _,rfl,by simp,rfl⟩
 obtain⟨j,hj,rfl,rfl,rfl⟩:=hrel;by_cases O:j<cs
 ·obtain⟨W,X,rfl,B⟩:=Rd.elem M j O
  generalize hx:cs[j]=x at B;obtain⟨k,l,v,d,ws⟩:=x;have E:=qh hx;clear hx;obtain⟨_,_,_,_,⟨G,-,-,-,-⟩,-,-,-⟩:=B.agent;simp only[Ty.sz,Bj]at G;have H:=Dn (p:=λc=>aK c==0) (l:=cs.take j);rw[Cf]at H;have P:=qh (Q33 (p:=λc:Qb=>aK c==0) O);clear B;generalize hcn:(cs.take j).countP (λc=>aK c==0)=cn at *
  by_cases C:k=0
  ·subst C
   go_wp2
   go_roundw;case rel=>exact⟨j+1,by omega,by go_num,by rw[P.o,E.o];simp[aK],trivial⟩
   simp[By];omega
  have J:(k==0)=Bm:=by simp[C]
  go_wp2
  go_roundw;case rel=>exact⟨j+1,by omega,by go_num,by rw[P.o,E.o];simp[aK,J],trivial⟩
  simp[By];omega
 have H:cs<=j:=by omega
 have Y:=D ((cs.take j).countP (λc=>aK c==0)=Qx cs) (by rw[Ao H];rfl);rw[Y.o];have A1:Qx cs<=cs:=Dn;go_wp2
 go_loopw [3,5] (λu i wr=>∃(n:Nat) (q:Int),n<=Qx cs/\u=I Z n/\i=I Z q/\Qyn q/\Hd (Zo cs (Qx cs) f=Zo cs n q)/\w=wr) (λu _ _=>(By u).toNat);case atStart=>exact⟨_,_,Aj _,rfl,rfl,V.o,rfl,rfl⟩
 obtain⟨n,q,hn,rfl,rfl,a,F,rfl⟩:=hrel;have A2:=a.bd;cases n with
 |zero=>
  go_wp2
  go_ret;exact⟨Q2 (by show _=Zo cs (Qx cs) f;rw[F.o];rfl),rfl⟩
 |succ n=>
  cases hin:Qxi q 0 ((cs:Int)-1)with
  |false=>
   go_wp2_with(go_at_call 53;refine jX (Jy _ _ _) ?_;rw[hin])
   go_ret;exact⟨Q2 (by show _=Zo cs (Qx cs) f;rw[F.o];simp only[Zo,hin,Ct]),rfl⟩
  |true=>
   have g:=Qj.1 hin;have S:q.toNat<cs:=by omega
   obtain⟨W,X,rfl,B⟩:=Rd.elem M q.toNat S;generalize hx:cs[q.toNat]=x at B;obtain⟨k,l,v,d,ws⟩:=x;have E:=D (Q7 cs q=(k,l,v,d,ws)) (by unfold Q7;rw[Qy S,hx]);clear hx;obtain⟨_,_,_,_,⟨G,-,r,-,-⟩,⟨-,-,T⟩,-,-⟩:=B.agent;simp only[Ty.sz,Bj]at G r;have s:=qh T;clear B T;have A3:(0:Int)<=q:=g.1;have A4:q<cs:=by omega
   by_cases C:k=0
   ·have J:(k !=0)=Bm:=by simp[C]
    go_wp2_with(go_at_call 53;refine jX (Jy _ _ _) ?_;rw[hin])
    go_roundw;case rel=>exact⟨n,v,by omega,by go_num,rfl,s.o,(show Zo cs (Qx cs) f=Zo cs n v by rw[F.o];simp only[Zo,hin,E.o,aK,aV,C,Ea,beq_self_eq_true]),trivial⟩
    (simp[By]<;>omega)
   have J:(k !=0)=Bn:=by simp[C]
   go_wp2_with(go_at_call 53;refine jX (Jy _ _ _) ?_;rw[hin])
   go_ret;exact⟨Q2 (by
    show _=Zo cs (Qx cs) f;rw[F.o];have:(k==0)=Bm:=by simp[C]
    simp only[Zo,E.o,aK,this,Ej,Ct]),rfl⟩
def Qqw(w:Bh)(a b c d T):
  ((w.alloc (.cells #[a,b] T)).alloc (.cells #[c,d] T)).heap[w.heap.size]?=R (.cells #[a,b] T)/\((w.alloc (.cells #[a,b] T)).alloc (.cells #[c,d] T)).heap[w.heap.size+1]?=R (.cells #[c,d] T)/\Bp w w ((w.alloc (.cells #[a,b] T)).alloc (.cells #[c,d] T)):=by
 refine⟨?_, ?_,by go_grown⟩
 ·rw[Az _ _ _ (by simp)];exact Bg w _
 have:=Bg (w.alloc (.cells #[a,b] T)) (.cells #[c,d] T);simpa using this
theorem Qkm{w:Bh}{b:Nat}{T C E}(h:w.heap[b]?=R (.cells #[C,E] T))(B v1):((w.setCell (b,0) B).setCell (b,1) v1).heap[b]?=R (.cells #[B,v1] T):=
 Z1 (Z1 h)
theorem Qw6{w:Bh}{b}{c:Nat}{o}(h:w.heap[c]?=R o)(B:c≠b){C v1}:((w.setCell (b,0) C).setCell (b,1) v1).heap[c]?=R o:=by
 rw[Es _ _ _ _ (by simpa using B),Es _ _ _ _ (by simpa using B)];exact h
def Q97(cs:List Qb):Prop:=∀c,c∈cs->∀x,x∈aW c->Zc cs x=Bn
theorem Qep(w b o)(m:Qyb)(t a)(h:At Qq w b o m)(it:Qyn t)(ia:Qyn a)(A2:Zc (mC m) (t,a)=Bn)(A3:Q97 (mC m)):
  Bv prog 105 #[(b,o),.agg #[t,a]] w λe w'=>∃t' a':Int,e=.returned (.tuple #[.agg #[t',a'],.bool (V7 (mC m) ((mC m)+1) (t,a))])/\(w,w'):=by
 obtain⟨cs,f,⟨rt,ra⟩,xs⟩:=m;obtain⟨pc,cc,_,_,⟨W,-,-,-,-⟩,-,⟨hc,hm,A4⟩,-⟩:=h.mem;unfold Bu at hm;have HC:=qh A4;have A9:=D (Zc cs (t,a)=Bn) (A2);have AA:=D (Q97 cs) (A3);have AB:=qh (Cj it ia);have AC:=Ac w _ W;simp only at AC;clear A4 h A2 A3 it ia;go_enter func105,ntmps105;go_wp2_with fail
 obtain⟨H0,H1,hB⟩:=Qqw w t a (I Z 0) (I Z 0) 40;have A5:=qh H0;have A6:=qh H1;have A7:=qh hB;clear H0 H1 hB
 go_loopw [6] (λu wr=>∃(n:Nat) (C B:Int),n<=cs+1/\u=I Z ((n:Int)-1)/\Hd (wr,oC w.heap.size #[C,B] 40)/\Hd (wr,oC (w.heap.size+1) #[(),()] 40)/\
  Hd (Zc cs (C,B)=Bn)/\Hd (Qyn C/\Qyn B)/\Hd (V7 cs (cs+1) (t,a)=V7 cs n (C,B))/\Hd (w,wr)) (λu _=>((By u)+1).toNat)
 case atStart=>exact⟨cs+1,t,a,Aj _,by go_num,A5.o,A6.o,A9.o,AB.o,rfl,A7.o⟩
 obtain⟨n,C,B,hn,rfl,J,H,HW,HI,g,K⟩:=hrel;clear A5 A6 A7;have L:=jC K W;have M:=Q6 J (o:=0) rfl;have O:=Q6 J (o:=1) rfl;have P:=Q6 H (o:=0) rfl;have S:=Q6 H (o:=1) rfl;have U:∀q,wr.frozen? ⟨w,q,N⟩=Bm:=λq=>Q0u.free (T:=40) ⟨_,J.o⟩ q;have V:∀q,wr.frozen? ⟨w+1,q,N⟩=Bm:=λq=>Q0u.free (T:=40) ⟨_,H.o⟩ q;cases n with
 |zero=>
  have AD:decide ((0:Int)<=((0:Nat):Int)-1)=Bm:=by decide
  go_wp2_with fail
  refine Ce (v:=.tuple #[.agg #[C,B],.bool Bm]) (by simp[results,results105,go_sem,Q6 (Qkm H C B) (o:=0) rfl,Q6 (Qkm H C B) (o:=1) rfl]) rfl ?_;exact⟨C,B,by show _=Ending.returned (.tuple #[_,.bool (V7 cs (cs+1) (t,a))]);rw[g.o];rfl,(K.o.setCell (by simp) _).setCell (by simp) _⟩
 |succ n=>
  have AD:decide ((0:Int)<=((n+1:Nat):Int)-1)=Bn:=by simp
  by_cases ht:C=2;rotate_left
  ·have j:(C !=2)=Bn:=by simp[ht]
   have X:=D (V7 cs (n+1) (C,B)=Bn) (by simp only[V7,j,Bool.true_or,if_true]);go_wp2
   go_quiet(fail)
   have F:=D ((wr.drewN nq).heap[w.heap.size]?=R (.cells #[C,B] 40)) (J.o);have E:=D ((wr.drewN nq).heap[w.heap.size+1]?=R (.cells #[(),()] 40)) (H.o);have G:=D (Bp w w (wr.drewN nq)) (Q8 K _);generalize wr.drewN nq=w1 at *
   clear M O P S U V L;have L:=jC G W;have M:=Q6 F (o:=0) rfl;have O:=Q6 F (o:=1) rfl;have P:=Q6 E (o:=0) rfl;have S:=Q6 E (o:=1) rfl;have U:∀q,w1.frozen? ⟨w,q,N⟩=Bm:=λq=>Q0u.free (T:=40) ⟨_,F.o⟩ q;have V:∀q,w1.frozen? ⟨w+1,q,N⟩=Bm:=λq=>Q0u.free (T:=40) ⟨_,E.o⟩ q;go_wp2_with fail
   refine Ce (v:=.tuple #[.agg #[C,B],.bool Bn]) (by simp[results,results105,go_sem,Q6 (Qkm E C B) (o:=0) rfl,Q6 (Qkm E C B) (o:=1) rfl]) rfl ?_;exact⟨C,B,by show _=Ending.returned (.tuple #[_,.bool (V7 cs (cs+1) (t,a))]);rw[g.o,X.o],(G.o.setCell (by simp) _).setCell (by simp) _⟩
  subst ht;have j:((2:Int) !=2)=Bm:=by decide
  have A8:=HW.o;simp only[Zc,Bi,Qj]at A8;obtain⟨⟨g1,g2⟩,-⟩:=A8;have p:B.toNat<cs:=by omega
  have g3:B<cs:=by omega
  obtain⟨b1,o1,rfl,r⟩:=Rd.elem HC B.toNat p;generalize hx:cs[B.toNat]=x at r;have AE:=D (x∈cs) (by rw[<-hx];exact As p);obtain⟨k,l,v,d,ws⟩:=x;have s:=D (Q7 cs B=(k,l,v,d,ws)) (by unfold Q7;rw[Qy p,hx]);clear hx;obtain⟨_,_,pw,cw,⟨-,-,-,-,z⟩,-,-,⟨v1,v2,hw⟩⟩:=r.agent;simp only[Ty.sz,Bj]at z;unfold Bu at v2;have AF:=jC K z;have AG:=qh hw;clear r hw;by_cases i:ws.length=0
  ·have AH:((ws:Int)==0)=Bn:=by simp[i]
   have X:=D (V7 cs (n+1) (2,B)=Bn) (by
    have:((aW (Q7 cs B)).length==0)=Bn:=by rw[s.o];simp[aW,i]
    simp only[V7,this,Bool.or_true,if_true])
   go_wp2
   go_quiet(fail)
   have F:=D ((wr.drewN nq).heap[w.heap.size]?=R (.cells #[I Z 2,B] 40)) (J.o);have E:=D ((wr.drewN nq).heap[w.heap.size+1]?=R (.cells #[(),()] 40)) (H.o);have G:=D (Bp w w (wr.drewN nq)) (Q8 K _);generalize wr.drewN nq=w1 at *
   clear M O P S U V L;have L:=jC G W;have M:=Q6 F (o:=0) rfl;have O:=Q6 F (o:=1) rfl;have P:=Q6 E (o:=0) rfl;have S:=Q6 E (o:=1) rfl;have U:∀q,w1.frozen? ⟨w,q,N⟩=Bm:=λq=>Q0u.free (T:=40) ⟨_,F.o⟩ q;have V:∀q,w1.frozen? ⟨w+1,q,N⟩=Bm:=λq=>Q0u.free (T:=40) ⟨_,E.o⟩ q;go_wp2_with fail
   refine Ce (v:=.tuple #[.agg #[I Z 2,B],.bool Bn]) (by simp[results,results105,go_sem,Q6 (Qkm E (I Z 2) B) (o:=0) rfl,Q6 (Qkm E (I Z 2) B) (o:=1) rfl]) rfl ?_;exact⟨2,B,by show _=Ending.returned (.tuple #[_,.bool (V7 cs (cs+1) (t,a))]);rw[g.o,X.o],(G.o.setCell (by simp) _).setCell (by simp) _⟩
  have AH:((ws:Int)==0)=Bm:=by simp[i]
  have A0:0<ws.length:=by omega
  obtain⟨b2,o2,rfl,A1⟩:=Rd.elem AG 0 A0;generalize hy:ws[0]=y at A1;obtain⟨Y,c⟩:=y;obtain⟨y0,y1,AI,AJ⟩:=A1.word;simp only[Nat.zero_mul,Nat.add_zero]at y0 y1;have HY:=D (ws.getD 0 (0,0)=(Y,c)) (by rw[Ab,Ad A0,hy];rfl);have AK:=D ((Y,c)∈ws) (by rw[<-hy];exact As A0);have AL:=qh (Cj AI AJ);have X:=D (V7 cs (n+1) (2,B)=V7 cs n (Y,c)) (by
   have h1:((aW (Q7 cs B)).length==0)=Bm:=by rw[s.o];simp only[aW,beq_eq_false_iff_ne];exact i
   have h2:(aW (Q7 cs B)).getD 0 (0,0)=(Y,c):=by rw[s.o];exact HY.o
   simp only[V7,j,h1,Bool.or_self,Bool.false_eq_true,if_false,h2])
  clear A1 hy;go_wp2
  go_quiet(fail)
  have F:=D ((wr.drewN nq).heap[w.heap.size]?=R (.cells #[I Z 2,B] 40)) (J.o);have E:=D ((wr.drewN nq).heap[w.heap.size+1]?=R (.cells #[(),()] 40)) (H.o);have G:=D (Bp w w (wr.drewN nq)) (Q8 K _);generalize wr.drewN nq=w1 at *
  clear M O P S U V L;have L:=jC G W;have M:=Q6 F (o:=0) rfl;have O:=Q6 F (o:=1) rfl;have P:=Q6 E (o:=0) rfl;have S:=Q6 E (o:=1) rfl;have U:∀q,w1.frozen? ⟨w,q,N⟩=Bm:=λq=>Q0u.free (T:=40) ⟨_,F.o⟩ q;have V:∀q,w1.frozen? ⟨w+1,q,N⟩=Bm:=λq=>Q0u.free (T:=40) ⟨_,E.o⟩ q;have AF:=jC G z;have AM:=jC G y0;have AN:=jC G y1;go_wp2_with fail
  go_still_tail 11,(by kernel_rfl)
  go_wp2
  go_roundw;case rel=>exact⟨n,Y,c,by omega,by go_num,Qkm F _ _,Qw6 E (by omega),AA.o _ AE _ AK,AL.o,(show _=_ by rw[g.o,X.o]),(show Bp w w _ from((G.o.setCell (by simp) _).setCell (by simp) _).drew)⟩
  (simp[By]<;>omega)
def Zk(c:Int):Int:=if c==7 then 1 else 2
def Q82{w}{c:Int}:Bv prog 225 #[c] w λe w'=>e=.returned (Zk c)/\w=w':=by
 go_enter func225,ntmps225;go_wp2;all_goals(go_ret;exact⟨Qt (by simp_all[Zk]),rfl⟩)
def Q6y{w b o}{n:List Qb}(h:At Jl w b o n):
  Bv prog 236 #[(b,o)] w λe w'=>e=.returned (V3 n)/\w=w':=by
 obtain⟨p,c,O,P,F,C⟩:=h.net;have G:=qh C;clear C h;unfold Bu at F;go_enter func236,ntmps236;go_wp2
 go_loopw [3,4] (λu i wr=>∃(j:Nat),j<=n/\i=I Z j/\u=I Z ((n.take j).foldl (λl x=>max l (aL x)) 0)/\w=wr) (λ_ i _=>n.length-(By i).toNat);case atStart=>exact⟨0,Ak _,rfl,by simp,rfl⟩
 obtain⟨j,S,rfl,rfl,rfl⟩:=hrel;by_cases E:j<n
 ·obtain⟨T,U,rfl,B⟩:=Rd.elem G j E
  have H:=D ((n.take (j+1)).foldl (λl x=>max l (aL x)) 0=max ((n.take j).foldl (λl x=>max l (aL x)) 0) (aL n[j])) (by rw[An E,List.foldl_append];rfl);generalize hx:n[j]=x at B;obtain⟨k,l,v,d,ws⟩:=x;have J:=qh hx;clear hx;obtain⟨_,_,_,_,⟨-,K,-,-,-⟩,-,-,-⟩:=B.agent;simp only[Ty.sz,Bj]at K;clear B;generalize hacc:(n.take j).foldl (λl x=>max l (aL x)) 0=acc at *
  clear hacc;go_wp2_with(go_at_call 221;refine jX (Qpe) ?_)
  go_roundw;case rel=>exact⟨j+1,by omega,by go_num,by rw[H.o,J.o];rfl,trivial⟩
  simp[By];omega
 have L:n<=j:=by omega
 have M:=D (n.take j=n) (Ao L);rw[M.o];go_wp2;go_ret;exact⟨rfl,rfl⟩
def Q65{w b o}(m:Qyb)(L)(h:At Qq w b o m)(H:Jm (mC m) (mF m) L)(J:L.length<=1000000):
  Bv prog 224 #[(b,o)] w λe w'=>e=.returned L/\w=w':=by
 obtain⟨cs,f,⟨r,s⟩,xs⟩:=m;obtain⟨t,y,_,_,⟨z,c1,-,-,-⟩,⟨T,-,-⟩,⟨hc,U,K⟩,-⟩:=h.mem;unfold Bu at U;have V:=qh K;have W:=D (Jm cs f L) (H);have X:=qh J;clear K h T H J;go_enter func224,ntmps224;go_wp2
 go_loopw [3,4] (λu i wr=>∃(j:Nat) (q:Int) (B:List Nat),u=I Z j/\i=I Z q/\Hd (Jm cs q B)/\Hd (j+B.length=L)/\w=wr) (λu _ _=>L.length-(By u).toNat);case atStart=>exact⟨0,f,L,rfl,rfl,W.o,Cg _,rfl⟩
 obtain⟨j,q,B,rfl,rfl,C,E,rfl⟩:=hrel;have A0:j<=1000000:=by have:=E.o;have:=X.o;omega
 cases B with
 |nil=>have F:q= -1:=C.o;subst F;have Y:=D (L=j) (by have:=E.o;simpa using this.symm);go_wp2;go_ret;exact⟨Qt (by rw[Y.o]),rfl⟩
 |cons a B=>
  obtain⟨F,M,-,O⟩:=C.o;subst F;have c:=qh O;have P:=D (j+1+B.length=L) (by have:=E.o;simp only[Br]at this;omega);have S:j<L:=by have:=P.o;omega
  have g:=qh S;obtain⟨b1,o1,rfl,G⟩:=Rd.elem V a M;generalize hx:cs[a]=x at G;obtain⟨k,l,v,d,ws⟩:=x;have n:=D (Q9 cs a=(k,l,v,d,ws)) (by rw[Qy M,hx]);clear hx;obtain⟨_,_,_,_,⟨-,-,p,-,-⟩,-,-,-⟩:=G.agent;simp only[Ty.sz,Bj]at p;have A1:(a:Int)<cs:=by omega
  clear G O S C;go_wp2
  go_roundw;case rel=>exact⟨j+1,v,B,by go_num,rfl,(show Jm cs v B by have:=c.o;rw[n.o]at this;exact this),P.o,trivial⟩
  (have:=g.o;simp[By];omega)
def Qr0{w}{a s c d:Int}:Bv prog 283 #[.agg #[a,s],.agg #[c,d]] w (oR w (Vm (a,s) (c,d))):=by
 go_enter func283,ntmps283;go_wp2;all_goals(go_ret;exact⟨Q2 (by simp_all[Vm]),by go_grown⟩)
def Vv{w}(a:Int):Bv prog 240 #[a] w (oR w (.agg #[I Z 1,a])):=by
 go_enter func240,ntmps240;go_wp2;refine Ce (v:=.agg #[I Z 1,a]) (by simp[results,results240,go_sem]) rfl ?_;exact⟨rfl,by go_grown⟩
def Q0r(n a wo:Int):Int:=if(a+1)%n==wo then((a+1)%n+1)%n else(a+1)%n
def Qr2{w b o}(m:Qyb)(B:List Qxb)(E a C:Int)(h:At Qv w b o (m,B,E))(H:1<=B.length)(J:B.length<=4)(K:0<=a)(L:a<B):
  Bv prog 192 #[(b,o),a,C] w λe w'=>e=.returned (Q0r B a C)/\w=w':=by
 obtain⟨-,M,O,⟨P,-⟩,-,-⟩:=h.pool;clear h;have F:¬((B:Int)=0):=by omega
 have S:((B:Int)==0)=Bm:=by rw[beq_eq_false_iff_ne];exact F
 have T:=Fz (a+1) (b:=(B:Int)) (by omega);have U:=Ez (a+1) (b:=(B:Int)) (by omega);have V:=Fz ((a+1)%(B:Int)+1) (b:=(B:Int)) (by omega);have W:=Ez ((a+1)%(B:Int)+1) (b:=(B:Int)) (by omega);cases q:((a+1)%(B:Int)==C)
 all_goals
  have G:=qh q;go_enter func192,ntmps192;go_wp2;go_ret;exact⟨Qt (by simp only[Q0r,G.o];rfl),rfl⟩
def Qjg:(prog.info? 207).map (λi=>(i.zero,i.size,i.bytes))=R (R (Value.agg #[(),()]),2,16):=by kernel_rfl
theorem Q7q(w b o)(k l v:Int)(d:List Int)(ws:List Wd)(h:At Q4 w b o (k,l,v,d,ws))(hl:ws.length<=100000000)(z A0)(Y:w.cell? (b,o+3)=R (A z d A0)):
  Bv prog 151 #[(b,o)] w λe w'=>∃(C:Option Addr) (E:Nat),e=.returned (.agg #[k,l,v,A z d A0,A C (Ch (ws+1) ((0:Int),(0:Int))).length E])/\(Qyn k/\Qyn l/\Qyn v)/\
   Qxu Q5 207 w w' (A C (Ch (ws+1) ((0:Int),(0:Int))).length E) (Ch (ws+1) (0,0))/\(w,w'):=by
 obtain⟨H,J,pw,cw,⟨c,M,c2,f,c4⟩,⟨O,i1,i2⟩,⟨d1,d2,hd⟩,⟨w1,w2,hw⟩⟩:=h.agent;rw[f]at Y;simp only[Option.some.injEq,Value.slice.injEq]at Y;obtain⟨rfl,-,rfl⟩:=Y;have HD:=qh hd;have HI:=qh (Cj O (Cj i1 i2));have HL:=qh hl;clear hd hw h O i1 i2;have A7:=Ac w _ c;simp only at A7;obtain⟨O,A8,A9,AA,AB⟩:=Ck Qjg;go_enter func151,ntmps151;go_upto_region 1 with fail
 go_cut [3] (λx F=>∃(B g:Nat),x=.pointer (R (B,0))/\w.heap.size+1<=B/\Q0u F B 153/\Q2s F w 153/\
  (F,B,0,k)/\(F,B,1,l)/\(F,B,2,v)/\(F,B,3,A H d J)/\(F,B,4,A (R (g,0)) 1 1)/\
  Qxu Q5 207 (w+1) F (A (R (g,0)) 1 1) [(0,0)]/\(w,F))
 case first=>
  go_region_held3(λw'=>(w',b,o,k)/\(w',b,o+1,l)/\(w',b,o+2,v)/\(w',b,o+3,A H d J))
   (exact⟨jC (w:=w) (by go_grown) c,jC (w:=w) (by go_grown) M,jC (w:=w) (by go_grown) c2,jC (w:=w) (by go_grown) f⟩) (first|fail)
  all_goals(go_wp2;go_meet)
  ·exact⟨_,_,rfl,by omega,⟨_,(Q71 w).2.2⟩,(Q71 w).1,Q6 (Q71 w).2.2 rfl,Q6 (Q71 w).2.2 rfl,Q6 (Q71 w).2.2 rfl,Q6 (Q71 w).2.2 rfl,Q6 (Q71 w).2.2 rfl,Qxu.of_block (t:=Q5) (xs:=[((0:Int),(0:Int))]) (Q71 w).2.1 (Aj _) rfl rfl Qqp (by simp[Bu]),by go_grown⟩
  exact⟨_,_,rfl,by omega,⟨_,(Q71 w).2.1⟩,(Q71 w).1,Q6 (Q71 w).2.1 rfl,Q6 (Q71 w).2.1 rfl,Q6 (Q71 w).2.1 rfl,Q6 (Q71 w).2.1 rfl,Q6 (Q71 w).2.1 rfl,Qxu.of_block (t:=Q5) (xs:=[((0:Int),(0:Int))]) (Q71 w).2.2 (Ii _) rfl rfl Qqp (by simp[Bu]),by go_grown⟩
 obtain⟨B,g,rfl,AP,A1,A2,e0,e1,e2,e3,e4,hO,m⟩:=hcut;have AC:=qh m;have HO:=qh hO;have HX:=qh A1;have HR:=qh A2;have AQ:=jC m c4;clear m hO A1 A2;go_wp2
 go_loopw [4] (λi wr=>∃(j:Nat) (u:Value),j<=ws/\i=I Z j/\(wr,B,4,u)/\Hd (Qxu Q5 207 (w+1) wr u (Ch (j+1) (0,0)))/\Hd (Q0u wr B 153)/\Hd (Q2s wr w 153)/\
  Hd ((wr,B,0,k)/\(wr,B,1,l)/\(wr,B,2,v)/\(wr,B,3,A H d J))/\Hd (w,wr)) (λi _=>ws.length-(By i).toNat)
 case atStart=>exact⟨0,_,Ak _,rfl,e4,HO.o,HX.o,HR.o,⟨e0,e1,e2,e3⟩,AC.o⟩
 obtain⟨j,u,hj,rfl,f4,G,S,K,HF,n⟩:=hrel;clear e0 e1 e2 e3 e4 c M c2 f HO HX HR;have AR:=jC n.o c4;have hR:=K.o.blk.lt;have hX:=S.o.lt;have fX:=λq=>S.o.free q;obtain⟨P,U⟩:∃P:List (Int×Int),P=Ch (j+1) ((0:Int),(0:Int)):=⟨_,rfl⟩;rw[<-U]at G;have AD:=D (P=j+1) (by rw[U,Eh]);have HP:=qh U;clear U;obtain⟨C,E,rfl,AS,AT⟩:=G.o.form;by_cases AU:j<ws
 ·have AE:Bp w w wr:=n.o
  have p:=qh (G.o.ne S (by decide));have L:=qh (G.o.ne K.o.blk (by decide));have AV:w.heap.size+1<=wr.heap.size:=by omega
  have A3:∀(T:Array Value),Qxu Q5 207 (w+1) (wr.alloc (.cells T 207)) (A C P E) P:=λT=>G.o.kept (by go_grown);have A4:Rd (.slice Q5) (wr.alloc (.cells #[(),()] 207)) [A (R (wr,0)) 1 1] [((0:Int),(0:Int))]:=(Qxu.of_block (t:=Q5) (xs:=[((0:Int),(0:Int))]) (Bg wr _) (Aj _) rfl rfl Qqp (by simp[Bu])).rd rfl;have AF:=qh A3;have AG:=qh A4;clear A3 A4;go_wp2_with(at_builtin;refine Ql _ rfl (.tmp 34) (.tmp 36) 151 rfl (t:=Q5) (v:=A C P E) (xs:=P) (ys:=[((0:Int),(0:Int))]) rfl (by decide) (w+1) 207 O _ 16 underlying151 A8 A9 AA AB rfl (by decide) rfl rfl (AF.o _) AG (by have:=AD.o;have:=HL.o;simp only[Dg];omega) (by simp;omega) ?_;intro v1 w1 V W;have r:=qh W;obtain⟨s,y⟩:∃s:List (Int×Int),s=P++ [((0:Int),(0:Int))]:=⟨_,rfl⟩;rw[<-y]at V;have AH:=qh y;clear y;obtain⟨p1,M,rfl,-,-⟩:=V.form;have A5:=qh V;have X:=(S.o.alloc _).grown W p.o;have A6:=qh X;have g4:=Qm8 X (Q6v W (o:=4) (by simp;omega) p.o) f4;have gX:=λq=>X.free q;clear V W X)
  have AI:=D (∀q,w1.cell? ⟨B,q,N⟩=wr.cell? ⟨B,q,N⟩) (λq=>by rw[Q6v r.o (by rw[Be];omega) p.o,World.cell?_alloc_lt _ _ _ hX]);have AJ:=qh ((K.o.alloc _).grown r.o L);have AK:=D (w,w1) (Ef (AE.alloc (by omega) _) r.o (by rw[Be];omega) (λi hi=>Nat.le_of_succ_le (G.o.block i hi).1));go_roundw;case rel=>exact⟨j+1,_,by omega,by go_num,World.cell?_setCell_same _ _ _ g4,(by
   have:=A5.o.setOther (a:=⟨B,4,N⟩) (A5.o.ne A6 (by decide)) (A p1 s M);exact this.eqL (by rw[AH.o,HP.o,<-Qsq])),A6.o.set _ _,AJ.o.set (by simp only;omega) _,(by
   obtain⟨f0,f1,f2,f3⟩:=HF.o;refine⟨?_, ?_, ?_, ?_⟩<;>(rw[World.cell?_setCell_other _ _ _ _ (by intro e;simp at e),AI.o];assumption)),AK.o.setCell (by simp only;omega) _⟩
  simp[By];omega
 have AW:ws<=j:=by omega
 obtain⟨f0,f1,f2,f3⟩:=HF.o;have AX:=λq=>K.o.blk.free q;obtain⟨r0,r1,r2,r3,r4⟩:=K.o.cells;have L:=qh (G.o.ne K.o.blk (by decide));go_wp2_with fail
 obtain⟨s0,s1,s2,s3,s4⟩:=Qx3 K k l v (A H d J) (A C P E);simp only[Yu,Cg,Bj]at s0 s1 s2 s3 s4;refine Ce (v:=.agg #[k,l,v,A H d J,A C P E]) (by simp[results,results151,go_sem,s0,s1,s2,s3,s4]) rfl ?_
 have AL:Bp w w (((((wr.setCell (w,0) k).setCell (w,1) l).setCell (w,2) v).setCell (w,3) (A H d J)).setCell (w,4) (A C P E)):=
  ((((n.o.setCell (Aj _) _).setCell (Aj _) _).setCell (Aj _) _).setCell (Aj _) _).setCell (Aj _) _
 have AM:=((((G.o.setOther (a:=⟨w,0,N⟩) L k).setOther (a:=⟨w,1,N⟩) L l).setOther (a:=⟨w,2,N⟩) L v).setOther (a:=⟨w,3,N⟩) L (A H d J)).setOther (a:=⟨w,4,N⟩) L (A C P E);have AN:j=ws:=by omega
 have AO:P=Ch (ws+1) (0,0):=by rw[HP.o,AN]
 obtain⟨h0,h1,h2⟩:=HI.o;rw[<-AO];exact⟨C,E,rfl,⟨h0,h1,h2⟩,AM.lo (Ii _),AL⟩
def Qmf{w b o}{k l v:Int}{d:List Int}{ws:List Wd}(h:At Q4 w b o (k,l,v,d,ws))(E:ws.length<=100000000):
  Bv prog 151 #[(b,o)] w λe w'=>∃vs,e=.returned (.agg vs.toArray)/\Rd Q4 w' vs (Zb (k,l,v,d,ws))/\(w,w'):=by
 obtain⟨B,C,_,_,⟨-,-,-,F,-⟩,-,⟨-,-,G⟩,-⟩:=h.agent;exact(Q7q w b o k l v d ws h E B C F).mono λe w' ⟨H,cu,he,⟨h0,h1,h2⟩,ho,hb⟩=>⟨[k,l,v,A B d C,A H _ cu],he,⟨[_],_,rfl,⟨rfl,h0⟩,[_],_,rfl,⟨rfl,h1⟩,[_],_,rfl,⟨rfl,h2⟩,[_],[_],rfl,G.kb hb,ho.rd rfl⟩,hb⟩
def Rd.agent{w vs}{x:Qb}(h:Rd Q4 w vs x):∃(B:Option Addr) (C:Nat) (E:Option Addr) (F:Nat),vs=[I Z (aK x),I Z (aL x),I Z (aV x),A B (aD x) C,A E (aW x) F]:=by
 obtain⟨_,_,rfl,⟨rfl,J⟩,_,_,rfl,⟨rfl,K⟩,_,_,rfl,⟨rfl,L⟩,_,_,rfl,G,H⟩:=h;obtain⟨B,C,rfl,M,O,G⟩:=Jh G;obtain⟨E,F,rfl,w1,w2,H⟩:=Jh H;exact⟨B,C,E,F,rfl⟩
def Qqg{w b o}{k l v:Int}{d:List Int}{ws:List Wd}{n:Nat}(h:At Q4 w b o (k,l,v,d,ws))(L:ws.length<=100000000)(W:n<=1500):
  Bv prog 101 #[.pointer (R ⟨b,o,N⟩),I Z n] w λe w'=>e=.returned (.bool (Ze (k,l,v,d,ws) && Q3t n (k,l,v,d,ws)))/\(w,w'):=by
 obtain⟨X,Y,a,c,⟨f,g,i,j,m⟩,⟨p,q,r⟩,⟨s,M,B⟩,⟨w1,w2,O⟩⟩:=h.agent;unfold Bu at M w2;have C:=qh h;have P:=qh L;have t:=Q2b (n:=n) (by omega);clear B O h;by_cases F:k=0
 ·subst F
  go_enter func101,ntmps101;go_wp2_with(go_at_call 53;refine jX (Jy _ _ _) ?_)
  all_goals(go_ret;exact⟨Q2 (by simp_all[Ze,Q3t,aK,aL,aV,aD,aW]<;>rfl),Ai _ _⟩)
 have S:(k==0)=Bm:=by simp[F]
 by_cases G:k=13
 ·subst G
  go_enter func101,ntmps101;go_wp2_with fail
  all_goals(go_ret;exact⟨Q2 (by simp_all[Ze,Q3t,aK,aL,aV,aD,aW]<;>rfl),Ai _ _⟩)
 have T:(k==13)=Bm:=by simp[G]
 have H:=D ((Ze (k,l,v,d,ws) && Q3t n (k,l,v,d,ws))=(Y9 k && Yb (Zb (k,l,v,d,ws)))) (by simp only[Ze,Q3t,aK,S,T];simp);cases hag:Y9 k with
 |false=>
  go_enter func101,ntmps101;go_wp2_with(go_at_call 104;refine jX (J2 _ _ _ _ _ _ _ _ C) ?_;rw[hag])
  go_ret;exact⟨Q2 (by rw[H.o,hag];rfl),Ai _ _⟩
 |true=>
  go_enter func101,ntmps101;go_wp2_with(first|(go_at_call 104;refine jX (J2 _ _ _ _ _ _ _ _ C) ?_;rw[hag])|(go_at_call 151;refine(Qmf C P).mono ?_;rintro e w2 ⟨vs,rfl,E,J⟩;obtain⟨u,q1,x,y,rfl⟩:=E.agent;have U:=qh E;have K:=qh J;clear E J)|(go_at_call 152;refine jR (Qb2 ⟨_,rfl,Q1n (Q6 (Bg w2 _) rfl) (Q6 (Bg w2 _) rfl) (Q6 (Bg w2 _) rfl) (Q6 (Bg w2 _) rfl) (Q6 (Bg w2 _) rfl),U.o.kb (by go_grown)⟩) λz B=> ?_;have V:=qh B;clear B))
  go_ret;exact⟨Q2 (by rw[H.o,hag];rfl),Q0 (show Bp w w _ from K.o.alloc (by have:=K.o.size;omega) _) V.o.below⟩
def Qt1{w b o}{m:Qyb}(h:At Qq w b o m)(L:(Z8 m).length<=100000000):
  Bv prog 102 #[(b,o)] w λe w'=>∃v,e=.returned v/\Qxu Q5 40 w w' v (Z8 m)/\(w,w'):=by
 obtain⟨cs,f,⟨B,C⟩,xs⟩:=m;obtain⟨pc,cc,_,_,⟨M,-,n,p,-⟩,⟨-,O,S⟩,⟨hc,q,T⟩,-⟩:=h.mem;unfold Bu at q;have r:=qh T;have U:=D (((B,C)::cs.flatMap aW).length<=100000000) (L);have s:=qh (Cj O S);have y:=Ac w _ M;simp only at y;clear T h L O S;obtain⟨z,A0,A1,A2,A3⟩:=Ck Q0a;go_enter func102,ntmps102;go_wp2_with fail
 have V:=qh (Qxu.of_block (t:=Q5) (xs:=[(B,C)]) (Bg w (.cells #[B,C] 40)) (Aj _) rfl rfl (λx G=>by have:x=(B,C):=Bb.1 G;rw[this];exact s.o) (by simp[Bu]));go_loopw [3,4] (λu i wr=>∃(j:Nat),j<=cs/\i=I Z j/\Hd (Qxu Q5 40 w wr u ((B,C)::(cs.take j).flatMap aW))/\Hd (w,wr)) (λ_ i _=>cs.length-(By i).toNat);case atStart=>exact⟨0,Ak _,rfl,V.o,(show Bp w w _ by go_grown)⟩
 obtain⟨j,hj,rfl,E,F⟩:=hrel;clear V n p;have A8:=jC F M;obtain⟨P,H⟩:∃P:List (Int×Int),P=(B,C)::(cs.take j).flatMap aW:=⟨_,rfl⟩;rw[<-H]at E;have J:=qh H;have HL:=D (P.length<=100000000) (by rw[H];have:=Zp (f:=aW) cs j;have:=U.o;simp only[Br]at *;omega);clear H;obtain⟨pu,cu,rfl,A9,AA⟩:=E.o.form;by_cases W:j<cs
 ·obtain⟨b1,o1,rfl,K⟩:=Rd.elem (r.o.kb F) j W
  generalize G:cs[j]=x at K;obtain⟨k,l,v,d,ws⟩:=x;have HX:=qh G;clear G;obtain⟨_,_,pw,cw,⟨-,-,-,-,e4⟩,-,-,⟨w1,w2,X⟩⟩:=K.agent;simp only[Ty.sz,Bj]at e4;have HW:=qh X;clear X K;have Y:=D ((cs.take (j+1)).flatMap aW=(cs.take j).flatMap aW++ws) (by rw[Zz W,HX.o];rfl);have A4:=D (P.length+ws.length<=100000000) (by have:=Zp (f:=aW) cs (j+1);have h2:=U.o;rw[Y.o]at this;rw[J.o];simp only[Br,Bo]at *;omega);have a:w.heap.size<=wr:=F.o.size;go_wp2_with(at_builtin;refine Ql _ rfl (.tmp 19) (.tmp 27) 121 rfl (t:=Q5) (v:=A pu P cu) (xs:=P) (ys:=ws) rfl (by decide) w 40 z _ 16 underlying121 A0 A1 A2 A3 rfl (by decide) rfl rfl E HW (by have:=A4.o;omega) a ?_;intro v1 w1 c g;have A5:=qh g;have A6:=qh c;clear c g)
  go_roundw;case rel=>exact⟨j+1,by omega,by go_num,A6.o.eqL (by rw[J.o,Y.o];rfl),E.o.grew F a A5⟩
  simp[By];omega
 have A7:cs<=j:=by omega
 go_wp2
 go_ret;refine⟨_,rfl,E.o.eqL ?_,F.o⟩;rw[J.o,Ao A7];rfl
def Qlv(w b o)(p:Ye)(h:At Qv w b o p)(J:(Qr (pW p)).length<=100000000):
  Bv prog 58 #[(b,o)] w λe w'=>∃v,e=.returned v/\Qxu Q5 143 w w' v (Qr (pW p))/\(w,w'):=by
 obtain⟨m,B,ac⟩:=p;obtain⟨-,A4,A5,⟨K,-⟩,-,⟨hc,Y,L⟩⟩:=h.pool;unfold Bu at Y;have a:=qh L;have M:=D ((B.flatMap wX).length<=100000000) (J);have c:=Ac w _ K;simp only at c;clear L h J;obtain⟨d,g,k,l,n⟩:=Ck Jj;go_enter func58,ntmps58;go_wp2_with fail
 have O:=qh (Qxu.of_block (t:=Q5) (xs:=[]) (Bg w (.cells #[] 143)) (Aj _) rfl rfl Q55.nil (by simp[Bu]));go_loopw [3,4] (λu i wr=>∃(j:Nat),j<=B/\i=I Z j/\Hd (Qxu Q5 143 w wr u ((B.take j).flatMap wX))/\Hd (w,wr)) (λ_ i _=>B.length-(By i).toNat);case atStart=>exact⟨0,Ak _,rfl,O.o,(show Bp w w _ by go_grown)⟩
 obtain⟨j,hj,rfl,C,E⟩:=hrel;clear O;have A6:=jC E K;obtain⟨P,F⟩:∃P:List (Int×Int),P=(B.take j).flatMap wX:=⟨_,rfl⟩;rw[<-F]at C;have G:=qh F;have HL:=D (P.length<=100000000) (by rw[F];have:=Zp (f:=wX) B j;have:=M.o;omega);clear F;obtain⟨q,r,rfl,A7,A8⟩:=C.o.form;by_cases S:j<B
 ·obtain⟨b1,o1,rfl,H⟩:=Rd.elem (a.o.kb E) j S
  generalize hx:B[j]=x at H;obtain⟨ph,vi,xs,ls,cs⟩:=x;have s:=qh hx;clear hx;obtain⟨px,cx,_,_,_,_,⟨-,-,y,-,-⟩,-,⟨w1,w2,T⟩,-,-⟩:=H.worker;simp only[Ty.sz,Bj]at y;have z:=qh T;clear T H;have U:=D ((B.take (j+1)).flatMap wX=(B.take j).flatMap wX++xs) (by rw[Zz S,s.o];rfl);have A0:=D (P.length+xs.length<=100000000) (by have:=Zp (f:=wX) B (j+1);have h2:=M.o;rw[U.o]at this;rw[G.o];simp only[Bo]at *;omega);have V:w.heap.size<=wr:=E.o.size;go_wp2_with(at_builtin;refine Ql _ rfl (.tmp 15) (.tmp 23) 41 rfl (t:=Q5) (v:=A q P r) (xs:=P) (ys:=xs) rfl (by decide) w 143 d _ 16 underlying41 g k l n rfl (by decide) rfl rfl C z.o (by have:=A0.o;omega) V ?_;intro v1 w1 W X;have A1:=qh X;have A2:=qh W;clear W X)
  go_roundw;case rel=>exact⟨j+1,by omega,by go_num,A2.o.eqL (by rw[G.o,U.o]),C.o.grew E V A1⟩
  simp[By];omega
 have A3:B<=j:=by omega
 go_wp2
 go_ret;refine⟨_,rfl,C.o.eqL ?_,E.o⟩;rw[G.o,Ao A3];rfl
abbrev lw(l:Qy3):List Wd:=[l.1,l.2]
theorem Qua(w b o)(p:Ye)(h:At Qv w b o p)(l:(Jd (pW p)).length<=100000000):
  Bv prog 57 #[(b,o)] w λe w'=>∃v,e=.returned v/\Qxu Q5 40 w w' v (Jd (pW p))/\(w,w'):=by
 obtain⟨m,B,ac⟩:=p;obtain⟨-,AI,A6,⟨O,-⟩,-,⟨hc,hm,n⟩⟩:=h.pool;unfold Bu at hm;have HC:=qh n;have HZ:=D ((B.flatMap λw=>(wL w).flatMap lw).length<=100000000) (l);have A7:=Ac w _ O;simp only at A7;clear n h l;obtain⟨i0,A8,A9,AA,AB⟩:=Ck Q0a;go_enter func57,ntmps57;go_wp2_with fail
 have q:=qh (Qxu.of_block (t:=Q5) (xs:=[]) (Bg w (.cells #[] 40)) (Aj _) rfl rfl Q55.nil (by simp[Bu]));go_loopw [3,4] (λu i wr=>∃(j:Nat),j<=B/\i=I Z j/\Hd (Qxu Q5 40 w wr u ((B.take j).flatMap λw=>(wL w).flatMap lw))/\Hd (w,wr)) (λ_ i _=>B.length-(By i).toNat);case atStart=>exact⟨0,Ak _,rfl,q.o,(show Bp w w _ by go_grown)⟩
 obtain⟨j,hj,rfl,r,S⟩:=hrel;clear q;rename Bh=>wo
 have X:=jC S O;by_cases s:j<B
 ·obtain⟨z,o1,rfl,Y⟩:=Rd.elem HC j s
  generalize U:B[j]=x at Y;obtain⟨ph,vi,xs,C,cs⟩:=x;have HX:=qh U;clear U;obtain⟨_,_,pl,cl,_,_,⟨-,-,-,V,-⟩,-,-,⟨w1,w2,hw⟩,-⟩:=Y.worker;simp only[Ty.sz,Bj]at V;unfold Bu at w2;have HW:=qh hw;clear hw Y;have a:=jC S V;have HS:=D (((B.take (j+1)).flatMap λw=>(wL w).flatMap lw)=((B.take j).flatMap λw=>(wL w).flatMap lw)++C.flatMap lw) (by rw[Zz s,HX.o];rfl);have AC:=D (((B.take j).flatMap λw=>(wL w).flatMap lw).length+(C.flatMap lw).length<=100000000) (by have:=Zp (f:=λw=>(wL w).flatMap lw) B (j+1);have h2:=HZ.o;rw[HS.o]at this;simp only[Bo]at *;omega);go_wp2
  go_loopw [3,5] (λu i wr=>∃(k:Nat),k<=C/\i=I Z k/\Hd (Qxu Q5 40 w wr u (((B.take j).flatMap λw=>(wL w).flatMap lw)++(C.take k).flatMap lw))/\Hd (w,wr)) (λ_ i _=>C.length-(By i).toNat);case atStart=>exact⟨0,Ak _,rfl,(show Qxu _ _ _ _ _ _ by have:=r.o;simpa using this),S.o⟩
  obtain⟨k,hk,rfl,J,K⟩:=hrel;clear X a;have X:=jC K O;have a:=jC K V;by_cases A0:k<C
  ·obtain⟨L,M,rfl,c⟩:=Rd.elem HW k A0
   generalize hy:C[k]=y at c;obtain⟨⟨E,F⟩,⟨G,H⟩⟩:=y;have HY:=qh hy;clear hy;obtain⟨⟨l0,l1,l2,l3⟩,j0,j1,j2,j3⟩:=c.link;simp only[Ty.sz,Bj]at l0 l1 l2 l3;have HF:=qh (Cj (Cj j0 j1) (Cj j2 j3));clear c j0 j1 j2 j3;obtain⟨P,W⟩:∃P:List (Int×Int),P=((B.take j).flatMap λw=>(wL w).flatMap lw)++(C.take k).flatMap lw:=⟨_,rfl⟩;rw[<-W]at J;have HP:=qh W;have A1:=D ((C.take (k+1)).flatMap lw=(C.take k).flatMap lw++ [(E,F),(G,H)]) (by rw[Zz A0,HY.o]);have HL:=D (P.length+2<=100000000) (by rw[W];have:=Zp (f:=lw) C (k+1);rw[A1.o]at this;have:=AC.o;simp only[Bo,Br,Em]at *;omega);clear W;obtain⟨pu,cu,rfl,AJ,AK⟩:=J.o.form;have AL:w.heap.size<=wr:=K.o.size;have AD:=Ac wr _ X;have AE:=Ac wr _ a;simp only at AD AE;have AM:Bp w w wr:=K.o;have AN:(j:Int)<B:=by omega
   have AO:(k:Int)<C:=by omega
   have AP:(0:Int)<=j:=by omega
   have AQ:(0:Int)<=k:=by omega
   have A2:∀(T:Array Value),Qxu Q5 40 w (wr.alloc (.cells T 40)).drew (A pu P cu) P:=λT=>J.o.kept (show Bp wr wr _ by go_grown)
   have A3:Rd (.slice Q5) (wr.alloc (.cells #[E,F,G,H] 40)).drew [A (R (wr,0)) 2 2] [(E,F),(G,H)]:=
    (Qxu.of_block (t:=Q5) (xs:=[(E,F),(G,H)]) (Bg wr _) (Aj _) rfl rfl (λx U=>by
     rcases Aq.1 U with h|h
     ·rw[h];exact HF.o.1
     rw[Bb.1 h];exact HF.o.2) (by simp[Bu])).rd rfl
   have AF:=qh A2;have AG:=qh A3;clear A2 A3;go_wp2_with fail
   go_region_held3(λw'=>(w',b,o+5,A (R (z,o1)) B A6)/\(w',z,o1+j * 5+3,A (R (L,M)) C cl)/\(w',L,M+k * 4,E)/\(w',L,M+k * 4+1,F)/\(w',L,M+k * 4+2,G)/\(w',L,M+k * 4+3,H))
    ((refine Qvu (w:=w) ?_ O V l0 l1 l2 l3;first|exact A4.o|go_grown))
    (first|((refine J7 _ rfl (.tmp 29) (.tmp 54) 121 rfl (t:=Q5) (v:=A pu P cu) (xs:=P) (ys:=[(E,F),(G,H)]) rfl (by decide) w 40 i0 _ 16 underlying121 A8 A9 AA AB rfl (by decide) rfl rfl (AF.o _) AG (by have:=HL.o;simp only[Br,Em];omega) (by simp;omega) ?_;intro v1 w1 A5 d;have AR:=qh d;have AH:=qh A5;have A4:=qh (Ef (show Bp w w _ by go_grown) d (by simp;omega) (λi hi=>(J.o.block i hi).1));clear A5 d)))
   go_wp2
   go_roundw;case rel=>exact⟨k+1,by omega,by go_num,AH.o.eqL (by rw[HP.o,A1.o,List.append_assoc]),A4.o⟩
   simp[By];omega
  have g:C<=k:=by omega
  go_wp2
  go_roundw;case rel=>exact⟨j+1,by omega,by go_num,J.o.eqL (by rw[HS.o,Ao g]),K.o⟩
  simp[By];omega
 have g:B<=j:=by omega
 go_wp2
 go_ret;refine⟨_,rfl,r.o.eqL ?_,S.o⟩;rw[Ao g];rfl
def Qk9{m c}(h:c∈mC m):(aW c).length<=(Z8 m):=by
 obtain⟨i,B,rfl⟩:=Av.1 h;have C:=Zz (f:=aW) B;grind[Zp,Z8]
theorem Q8e{α:Type}{p}{xs:List α}{x}(h:x∈xs)(B:p x=Bm):xs.all p=Bm:=by
 grind
def Q8w{α p}{xs:List α}(h:∀(i:Nat) (B:i<xs),p xs[i]=Bn):xs.all p=Bn:=by
 grind[List.mem_iff_getElem]
def Q2v:(prog.info? 2).map (λi=>(i.zero,i.size,i.bytes))=R (R (I Z 0),1,8):=by kernel_rfl
def Qd7(m:Qyb)(held rs:List Wd):Bool:=
 (List.range (mC m)).all (λi=>Q51 (Q9 (mC m) i) (Jk (Z8 m++held) rs i) && Q7k (mC m) i) && Zo (mC m) (Qx (mC m)) (mF m)
def Qir{m held rs c}(B:c∈mC m)(h:(Ze c && Q3t (mC m) c)=Bm):Q14 m held rs=Bm:=by
 cases ho:Q14 m held rs with
 |false=>rfl
 |true=>exfalso;simp only[Q14,Bi]at ho;grind[Qas]
theorem Qdn{c}(h:Ze c=Bn)(B:aK c=13):(aW c).length<2:=by
 unfold Ze at h;grind
theorem Qdr{m held}{rs:List Wd}(B:Qxi (mC m) 1 1500=Bn)(C:rs.length<=(mC m))(E:(mC m).all Ze=Bn)(F:(Z8 m++held).all (Zc (mC m))=Bn)(G:rs.all (Zn (mC m))=Bn):
  Q14 m held rs=Qd7 m held rs:=by
 simp only[Q14,Qd7,B,C,E,F,G,decide_true,Ea]
theorem Qvh(w b o)(m:Qyb)(held rs:List Wd)(ph pr ch cr)(h:At Qq w b o m)(hh:Rd (.slice Q5) w [A ph held ch] held)(hr:Rd (.slice Q5) w [A pr rs cr] rs)(T:(Z8 m).length+held.length<=10000000)(CX:rs.length<=100000000):
  Bv prog 56 #[(b,o),A ph held ch,A pr rs cr] w (oR w (Q14 m held rs)):=by
 have HM:=qh h;obtain⟨M,hM⟩:∃M,M=m:=⟨_,rfl⟩;obtain⟨cs,f,⟨rt,ra⟩,xs⟩:=m;obtain⟨pc,cc,_,_,⟨c0,-,-,-,-⟩,-,⟨hc,hm,BA⟩,-⟩:=h.mem;have K:=D (mC M=cs) (by rw[hM];rfl);rw[<-hM]at HM T⊢;unfold Bu at hm;have HC:=qh BA;have HH:=qh hh;have HR:=qh hr;have HZ:=qh T;have CA:=Ac w _ c0;simp only at CA;clear BA h hh hr T hM;by_cases AC:Qxi cs 1 1500=Bn/\rs.length<=cs;rotate_left
 ·have HF:=D (Q14 M held rs=Bm) (by
   simp only[Q14,K.o];rcases Decidable.not_and_iff_or_not.1 AC with h|h
   ·rw[show Qxi cs 1 1500=Bm by simpa using h];rfl
   simp[h])
  cases A2:Qxi cs 1 1500 with
  |false=>
   clear AC;go_enter func56,ntmps56;go_wp2_with(go_at_call 53;refine jX (Jy _ _ _) ?_;rw[A2])
   go_ret;exact⟨Q2 HF.o.symm,Ai _ _⟩
  |true=>
   have BB:(cs:Int)<rs:=by simp[A2]at AC;omega
   clear AC;go_enter func56,ntmps56;go_wp2_with(go_at_call 53;refine jX (Jy _ _ _) ?_;rw[A2])
   go_ret;exact⟨Q2 HF.o.symm,Ai _ _⟩
 obtain⟨A2,AX⟩:=AC;have BB:decide (cs.length<rs)=Bm:=by simp;omega
 have CB:=Qj.1 A2;have BC:cs.length<=1500:=by omega
 have CY:1<=cs.length:=by omega
 have BD:=qh A2;have AY:=qh AX;clear CB AX;obtain⟨i0,CC,CD,CE,CF⟩:=Ck Q2v;obtain⟨i1,BE,BF,CG,CH⟩:=Ck Q0a;go_enter func56,ntmps56;go_wp2_with(go_at_call 53;refine jX (Jy _ _ _) ?_;rw[BD.o])
 clear A2 BB;have BG:=qh (Qxu.of_block (t:=.int) (xs:=[]) (Bg w (.cells #[] 2)) (Aj _) rfl rfl Q55.nil (by simp[Bu]));go_loopw [8,9] (λu i wr=>∃(j:Nat),j<=cs/\i=I Z j/\Hd (Qxu .int 2 w wr u (Ch j 0))/\Hd (∀(q:Nat) (G:q<cs),q<j->(Ze cs[q] && Q3t cs cs[q])=Bn)/\Hd (w,wr)) (λ_ i _=>cs.length-(By i).toNat);case atStart=>exact⟨0,Ak _,rfl,BG.o,λq _ h=>absurd h (Dh _),(show Bp w w _ by go_grown)⟩
 obtain⟨j,hj,rfl,HO,V,E⟩:=hrel;clear BG;have A3:=jC E c0;by_cases O:j<cs
 ·obtain⟨b1,o1,rfl,hA⟩:=Rd.elem (HC.o.kb E) j O
  have A4:=qh (As O);generalize Y:cs[j]=x at hA;have U:=qh Y;clear Y;obtain⟨k,l,v,d,ws⟩:=x;simp only[Ty.sz,Bj]at hA;have W:=qh hA;clear hA;have A6:=D (ws.length<=100000000) (by have h1:=Qk9 (m:=M) (c:=cs[j]) (by rw[K.o];exact A4.o);rw[U.o]at h1;have h2:=HZ.o;simp only[aW]at h1;omega);cases hok:(Ze (k,l,v,d,ws) && Q3t cs (k,l,v,d,ws))with
  |false=>
   have z:=qh hok;clear hok;go_wp2_with(go_at_call 101;refine jR (Qqg W A6 BC) λw' J=> ?_;rw[z.o];have L:=qh J;clear J)
   go_ret;exact⟨Q2 (Qir (c:=cs[j]) (by rw[K.o];exact A4.o) (by rw[U.o,K.o];exact z.o)).symm,Q0 E L⟩
  |true=>
   have z:=qh hok;clear hok;obtain⟨P,hP⟩:∃P:List Int,P=Ch j 0:=⟨_,rfl⟩;rw[<-hP]at HO;have HP:=qh hP;have CI:=D (P=j) (by rw[hP,Eh]);clear hP;obtain⟨pu,cu,rfl,BH,CJ⟩:=HO.o.form;have AZ:w.heap.size<=wr:=E.o.size;go_wp2_with(first|(go_at_call 101;refine jR (Qqg W A6 BC) λw2 J=> ?_;rw[z.o];have L:=qh J;have AK:=J.size;clear J)|(at_builtin;refine Ql _ rfl (.tmp 51) (.tmp 52) 34 rfl (t:=.int) (v:=A pu P cu) (xs:=P) (ys:=[(0:Int)]) rfl (by decide) w 2 i0 _ 8 underlying34 CC CD CE CF rfl (by decide) rfl rfl ((HO.o.kept L).kept (show Bp w2 w2 _ by go_grown)) ((Qxu.of_block (t:=.int) (xs:=[(0:Int)]) (B:=w2) (Bg w2 _) (Aj _) rfl rfl (Q29 (t:=.int) (x:=(0:Int)) (by unfold Q55 Qyn;omega)) (by simp[Bu])).rd rfl) (by have:=CI.o;simp only[Dg];omega) (by simp;omega) ?_;intro v1 w1 AD AE;have AL:=qh AE;have A7:=qh AD;clear AD AE))
   go_roundw;case rel=>exact⟨j+1,by omega,by go_num,A7.o.eqL (by rw[HP.o,<-List.replicate_succ']),λq G BI=>(by
    by_cases AF:q=j
    ·subst AF;rw[U.o];exact z.o
    exact V.o q G (by omega)),Ef ((Q0 E L).alloc (by omega) _) AL (by simp;omega) (λi hi=>(HO.o.block i hi).1)⟩
   simp[By];omega
 have A5:cs<=j:=by omega
 have BJ:j=cs:=by omega
 have BK:=D (∀(q:Nat) (G:q<cs),(Ze cs[q] && Q3t cs cs[q])=Bn) (λq G=>V.o q G (by omega));have AM:=D (Qxu .int 2 w wr u8 (Qyg [] [] cs.length)) (HO.o.eqL (by rw[BJ,<-Qra]));clear BJ V HO;obtain⟨g,cu,rfl,BH,CJ,BL,B0⟩:=OwnI.head AM (by rw[Y7];omega);rw[Y7]at AM BH;rw[Y7];have BM:=qh BL;clear BL;have CK:=D ((Z8 M).length<=100000000) (by have:=HZ.o;omega);have AZ:w.heap.size<=wr:=E.o.size;go_wp2_with(first|(go_at_call 102;refine(Qt1 (HM.o.kb E) CK).mono ?_;rintro e w2 ⟨vw,rfl,B1,J⟩;obtain⟨pw,cw,rfl,-,-⟩:=B1.form;have B2:=qh B1;have L:=qh J;have AK:=J.size;clear J B1)|(at_builtin;refine Ql _ rfl (.tmp 55) (.tmp 56) 121 rfl (t:=Q5) (v:=A pw (Z8 M) cw) (xs:=Z8 M) (ys:=held) rfl (by decide) wr 40 i1 _ 16 underlying121 BE BF CG CH rfl (by decide) rfl rfl B2 (HH.o.kept ((Am E).trans (Am L))) (by have:=HZ.o;omega) AK ?_;intro v1 w1 AD AE;have AL:=qh AE;have A7:=qh AD;clear AD AE))
 have AN:Bp wr wr w1:=Ef L AL AK (λi hi=>(B2.o.block i hi).1);obtain⟨C,AO⟩:∃C:List Wd,C=Z8 M++held:=⟨_,rfl⟩;rw[<-AO]at A7;have AG:=qh AO;have A6:=D (C.length<=10000000) (by rw[AO,Bo];exact HZ.o);obtain⟨pv,cv,rfl,CL,-⟩:=A7.o.form;have BN:=qh (A7.o.lo AZ);have BO:=qh (AM.o.kept AN);have BP:=qh (BM.o.kept AN);have BQ:=qh (Q0 E AN);clear AN AL B2 L A7 AK E AM BM AO A3 AZ;generalize w1=wz at *
 go_loopw [11] (λi wr=>∃(j:Nat),j<=C/\i=I Z j/\Hd (Qxu .int 2 w wr (A (R (g,0)) cs cu) (Qyg (C.take j) [] cs.length))/\Hd (Qxu Q5 40 w wr (A pv C cv) C)/\Hd (Q0u wr g 2)/\Hd (∀(q:Nat) (G:q<C),q<j->Zc cs C[q]=Bn)/\Hd (w,wr)) (λi _=>C.length-(By i).toNat);case atStart=>exact⟨0,Ak _,rfl,BO.o.eqL (by simp),BN.o,BP.o,λq _ h=>absurd h (Dh _),BQ.o⟩
 obtain⟨j,hj,rfl,r,HP,HG,V,E⟩:=hrel;clear BO BN BP BQ;have BR:C.length<=10000000:=A6.o;by_cases O:j<C
 ·obtain⟨bw,ow,rfl,hE⟩:=Rd.elem (HP.o.rd rfl) j O
  have A4:=qh (As O);generalize Y:C[j]=x at hE;obtain⟨t,a⟩:=x;have U:=qh Y;clear Y;obtain⟨y0,y1,it,ia⟩:=hE.word;simp only[Ty.sz,Bj]at y0 y1;have HI:=qh (Cj it ia);clear hE it ia;have HS:=D (C.take (j+1)=C.take j++ [(t,a)]) (by rw[An O,U.o]);cases hok:Zc cs (t,a)with
  |false=>
   have z:=qh hok;clear hok;go_wp2_with(go_at_call 103;refine jR (Qpg (HM.o.kb E) HI.o.1 HI.o.2) λw' J=> ?_;rw[K.o,z.o];have L:=qh J;clear J)
   go_ret;refine⟨Q2 ?_,Q0 E L⟩;have hf:(Z8 M++held).all (Zc (mC M))=Bm:=by rw[<-AG.o,K.o];exact Q8e A4 (by rw[U.o,z.o])
   simp only[Q14,hf,Ct,Ej]
  |true=>
   have BS:=hok;simp only[Zc,Bi,Qj]at BS;obtain⟨⟨g1,g2⟩,-⟩:=BS;have A0:a.toNat<cs:=by omega
   have g3:a<cs:=by omega
   obtain⟨u0,-⟩:=OwnI.get r.o a.toNat (by rw[Y7];exact A0);rw[Q2y A0]at u0;have A1:=Q3w (C.take j) [] a.toNat;rw[Cf]at A1;have AH:=qh (Qkh (ws:=C.take j) (n:=cs) (w:=(t,a)) g1 A0);simp only at AH;generalize hun:Jk (C.take j) [] a.toNat=un at *
   have BT:un<=10000000:=by simp only[Em]at A1;omega
   have z:=qh hok;clear hok A1 hun;have CM:=qh (HP.o.ne HG (by decide));have CN:=HG.o.lt;go_wp2_with(go_at_call 103;refine jR (Qpg (HM.o.kb E) HI.o.1 HI.o.2) λw2 J=> ?_;rw[K.o,z.o];have L:=qh J;have y0:=jC J y0;have y1:=jC J y1;have u0:=jC J u0;have fG:=λq=>(HG.o.kept J).free q;clear J)
   go_roundw;case rel=>exact⟨j+1,by omega,by go_num,(show Qxu _ _ _ _ _ _ from(OwnI.set (r.o.kept L) a.toNat (by rw[Y7];exact A0) _ (by unfold Qyn;omega)).eqL (by rw[HS.o,AH.o])),(show Qxu _ _ _ _ _ _ from(HP.o.kept L).setOther (a:=⟨g,a.toNat,N⟩) CM _),(show Q0u _ _ _ from(HG.o.kept L).set _ _),λq G BI=>(by
    by_cases AF:q=j
    ·subst AF;rw[U.o];exact z.o
    exact V.o q G (by omega)),(show Bp w w _ from(Q0 E L).setCell B0 _)⟩
   simp[By];omega
 have A5:C<=j:=by omega
 have BU:=D (∀(q:Nat) (G:q<C),Zc cs C[q]=Bn) (λq G=>V.o q G (by omega));have BV:=qh (r.o.eqL (by rw[Ao A5]:_=Qyg C [] cs.length));have BW:=qh HG.o;have BX:=qh E.o;clear r HP HG V E A5 hj CL;have AX:=AY.o;have CZ:=Q2b (n:=cs) (by omega);go_wp2_with fail
 generalize wr=wy at *
 go_loopw [12] (λi wr=>∃(j:Nat),j<=rs/\i=I Z j/\Hd (Qxu .int 2 w wr (A (R (g,0)) cs cu) (Qyg C (rs.take j) cs))/\Hd (Q0u wr g 2)/\Hd (∀(q:Nat) (G:q<rs),q<j->Zn cs rs[q]=Bn)/\Hd (w,wr)) (λi _=>rs.length-(By i).toNat);case atStart=>exact⟨0,Ak _,rfl,BV.o.eqL (by simp),BW.o,λq _ h=>absurd h (Dh _),BX.o⟩
 obtain⟨j,hj,rfl,r,HG,V,E⟩:=hrel;clear BV BW BX;by_cases O:j<rs
 ·obtain⟨br,D0,rfl,hE⟩:=Rd.elem (HR.o.kb E) j O
  have A4:=qh (As O);generalize Y:rs[j]=x at hE;obtain⟨S,pb⟩:=x;have U:=qh Y;clear Y;obtain⟨y0,y1,it,ia⟩:=hE.word;simp only[Ty.sz,Bj]at y0 y1;have it:=it.bd;have ia:=ia.bd;clear hE;have A3:=jC E c0;have CO:=Ac wr _ A3;simp only at CO;have CN:=HG.o.lt;have HS:=D (rs.take (j+1)=rs.take j++ [(S,pb)]) (by rw[An O,U.o]);have HF:=D (Zn cs (S,pb)=Bm->Q14 M held rs=Bm) (λhf=>by
   have:rs.all (Zn (mC M))=Bm:=by rw[K.o];exact Q8e A4 (by rw[U.o];exact hf)
   simp only[Q14,this,Ct,Ej])
  go_wp2_with fail
  obtain⟨m0,m1,hB⟩:=Qqy wr S pb 143;have A8:=jC hB A3;have A9:=qh hB;generalize wr.alloc (Obj.cells #[S,pb] 143)=W1 at *
  have AI:=qh (Am (Q0 E A9));clear hB A3 y0 y1;cases q0:Qxi pb 1 ((cs:Int)-1)with
  |false=>
   (refine Z9 (λw'=>(W1,w')) (by kernel_rfl) (by kernel_rfl) (Ai _ _).drew ?_;(repeat(first|go_big_quiet_skip|(go_big_quiet_want;apply Ee;refine⟨λw' F=> ?_, ?_⟩;(focus(have AP:=jC F m0;have AQ:=jC F m1;have AR:=jC F A8;go_simp;first|done|with_reducible rfl|(first|(go_at_call 53;exact(Jy _ _ _).mono λe s ⟨H,hb⟩=>⟨by rw[H,q0],hb▸F⟩))));simp only[Act.put,Cn,Cv,Cx];go_big_quiet_on)));refine Ek ?_;intro wz T)
   go_wp2;go_ret;exact⟨Q2 (HF.o (by simp only[Zn,q0,Ct])).symm,Q0 (Q0 E A9) T⟩
  |true=>
   have g1:=Qj.1 q0;have AS:IntKind.i64.wrap (pb-1)=pb-1:=by simp only[IntKind.wrap_i64];omega
   cases q1:Qxi S 0 (pb-1)with
   |false=>
    (refine Z9 (λw'=>(W1,w')) (by kernel_rfl) (by kernel_rfl) (Ai _ _).drew ?_;(repeat(first|go_big_quiet_skip|(go_big_quiet_want;apply Ee;refine⟨λw' F=> ?_, ?_⟩;(focus(have AP:=jC F m0;have AQ:=jC F m1;have AR:=jC F A8;go_simp;first|done|with_reducible rfl|(first|(go_at_call 53;exact(Jy _ _ _).mono λe s ⟨H,hb⟩=>⟨by rw[H,q0],hb▸F⟩)|(go_at_call 53;exact(Jy _ _ _).mono λe s ⟨H,hb⟩=>⟨by rw[H,q1],hb▸F⟩))));simp only[Act.put,Cn,Cv,Cx];go_big_quiet_on)));refine Ek ?_;intro wz T)
    go_wp2;go_ret;exact⟨Q2 (HF.o (by simp only[Zn,q0,q1,Ct,Ej])).symm,Q0 (Q0 E A9) T⟩
   |true=>
    have g2:=Qj.1 q1;have AA:pb.toNat<cs:=by omega
    have A0:S.toNat<cs:=by omega
    have g3:pb<cs:=by omega
    have g4:S<cs:=by omega
    have g5:(0:Int)<=pb:=by omega
    obtain⟨b1,o1,CP,AT⟩:=Rd.elem HC S.toNat A0;obtain⟨b2,o2,BY,AU⟩:=Rd.elem HC pb.toNat AA;subst CP;simp only[Option.some.injEq,Addr.mk.injEq,and_true]at BY;obtain⟨rfl,rfl⟩:=BY;generalize hx1:cs[S.toNat]=x1 at AT;generalize hx2:cs[pb.toNat]=x2 at AU;obtain⟨k1,l1,v1,d1,D1⟩:=x1;obtain⟨k2,l2,v2,d2,D2⟩:=x2;have CQ:=D (aK (Q7 cs S)=k1) (by unfold Q7;rw[Qy A0,hx1];rfl);have CR:=D (aK (Q7 cs pb)=k2) (by unfold Q7;rw[Qy AA,hx2];rfl);simp only[Ty.sz,Bj]at AT AU;have B3:=qh AT;have BZ:=qh AU;clear AT AU hx1 hx2;have B4:=D (Zn cs (S,pb)=(Y9 k1 && Y9 k2)) (by simp only[Zn,q0,q1,CQ.o,CR.o,Ea]);cases q2:Y9 k1 with
    |false=>
     (refine Z9 (λw'=>(W1,w')) (by kernel_rfl) (by kernel_rfl) (Ai _ _).drew ?_;(repeat(first|go_big_quiet_skip|(go_big_quiet_want;apply Ee;refine⟨λw' F=> ?_, ?_⟩;(focus(have AP:=jC F m0;have AQ:=jC F m1;have AR:=jC F A8;go_simp;first|done|with_reducible rfl|(first|(go_at_call 53;exact(Jy _ _ _).mono λe s ⟨H,hb⟩=>⟨by rw[H,q0],hb▸F⟩)|(go_at_call 53;exact(Jy _ _ _).mono λe s ⟨H,hb⟩=>⟨by rw[H,q1],hb▸F⟩)|(go_at_call 104;exact(J2 _ _ _ _ _ _ _ _ (B3.o.kept (AI.o.trans (Am F)))).mono λe s ⟨H,hb⟩=>⟨by rw[H,q2],hb▸F⟩))));simp only[Act.put,Cn,Cv,Cx];go_big_quiet_on)));refine Ek ?_;intro wz T)
     go_wp2;go_ret;exact⟨Q2 (HF.o (by rw[B4.o,q2];rfl)).symm,Q0 (Q0 E A9) T⟩
    |true=>
     cases y:Y9 k2 with
     |false=>
      (refine Z9 (λw'=>(W1,w')) (by kernel_rfl) (by kernel_rfl) (Ai _ _).drew ?_;(repeat(first|go_big_quiet_skip|(go_big_quiet_want;apply Ee;refine⟨λw' F=> ?_, ?_⟩;(focus(have AP:=jC F m0;have AQ:=jC F m1;have AR:=jC F A8;go_simp;first|done|with_reducible rfl|(first|(go_at_call 53;exact(Jy _ _ _).mono λe s ⟨H,hb⟩=>⟨by rw[H,q0],hb▸F⟩)|(go_at_call 53;exact(Jy _ _ _).mono λe s ⟨H,hb⟩=>⟨by rw[H,q1],hb▸F⟩)|(go_at_call 104;exact(J2 _ _ _ _ _ _ _ _ (B3.o.kept (AI.o.trans (Am F)))).mono λe s ⟨H,hb⟩=>⟨by rw[H,q2],hb▸F⟩)|(go_at_call 104;exact(J2 _ _ _ _ _ _ _ _ (BZ.o.kept (AI.o.trans (Am F)))).mono λe s ⟨H,hb⟩=>⟨by rw[H,y],hb▸F⟩))));simp only[Act.put,Cn,Cv,Cx];go_big_quiet_on)));refine Ek ?_;intro wz T)
      go_wp2;go_ret;exact⟨Q2 (HF.o (by rw[B4.o,q2,y];rfl)).symm,Q0 (Q0 E A9) T⟩
     |true=>
      (refine Z9 (λw'=>(W1,w')) (by kernel_rfl) (by kernel_rfl) (Ai _ _).drew ?_;(repeat(first|go_big_quiet_skip|(go_big_quiet_want;apply Ee;refine⟨λw' F=> ?_, ?_⟩;(focus(have AP:=jC F m0;have AQ:=jC F m1;have AR:=jC F A8;go_simp;first|done|with_reducible rfl|(first|(go_at_call 53;exact(Jy _ _ _).mono λe s ⟨H,hb⟩=>⟨by rw[H,q0],hb▸F⟩)|(go_at_call 53;exact(Jy _ _ _).mono λe s ⟨H,hb⟩=>⟨by rw[H,q1],hb▸F⟩)|(go_at_call 104;exact(J2 _ _ _ _ _ _ _ _ (B3.o.kept (AI.o.trans (Am F)))).mono λe s ⟨H,hb⟩=>⟨by rw[H,q2],hb▸F⟩)|(go_at_call 104;exact(J2 _ _ _ _ _ _ _ _ (BZ.o.kept (AI.o.trans (Am F)))).mono λe s ⟨H,hb⟩=>⟨by rw[H,y],hb▸F⟩))));simp only[Act.put,Cn,Cv,Cx];go_big_quiet_on)));refine Ek ?_;intro wz T)
      have B5:=qh (Q0 A9 T);have CS:=D (Zn cs (S,pb)=Bn) (by rw[B4.o,q2,y];rfl);have D3:=jC T m0;have D4:=jC T m1;have B6:=qh (r.o.kept B5);have C0:=qh (HG.o.kept B5);have D5:=D (wr≠g) (by omega);obtain⟨u0,-⟩:=OwnI.get B6 S.toNat (by rw[Y7];exact A0);obtain⟨u1,-⟩:=OwnI.get B6 pb.toNat (by rw[Y7];exact AA);rw[Q2y A0]at u0;rw[Q2y AA]at u1;have A1:=Q3w C (rs.take j) S.toNat;have C1:=Q3w C (rs.take j) pb.toNat;rw[Cf]at A1 C1;have AH:=qh (Qhg (ws:=C) (rs:=rs.take j) (n:=cs) (p:=(S,pb)) g2.1 (by simp only;omega) AA);simp only at AH;have BR:=A6.o;generalize hun:Jk C (rs.take j) S.toNat=ua at *
      generalize hun':Jk C (rs.take j) pb.toNat=ub at *
      have BT:ua<=100000000:=by omega
      have D6:ub<=100000000:=by omega
      have fG:=λq=>C0.o.free q;have D7:¬S.toNat=pb.toNat:=by omega
      clear A1 C1 hun hun' T m0 m1 A8;go_wp2
      go_roundw;case rel=>exact⟨j+1,by omega,by go_num,(show Qxu _ _ _ _ _ _ from(OwnI.set (OwnI.set B6 S.toNat (by rw[Y7];exact A0) (ua+1) (by unfold Qyn;omega)) pb.toNat (by rw[List.length_set,Y7];exact AA) (ub+1) (by unfold Qyn;omega)).eqL (by rw[HS.o,AH.o])),(show Q0u _ _ _ from(C0.o.set _ _).set _ _),λq G BI=>(by
       by_cases AF:q=j
       ·subst AF;rw[U.o];exact CS.o
       exact V.o q G (by omega)),(show Bp w w _ from((Q0 E B5).setCell B0 _).setCell B0 _)⟩
      simp[By];omega
 have A5:rs<=j:=by omega
 have CT:=D (rs.all (Zn (mC M))=Bn) (by rw[K.o];exact Q8w λq G=>V.o q G (by omega));have C2:=qh (r.o.eqL (by rw[Ao A5]:_=Qyg C rs cs));have CU:=qh HG.o;have C3:=qh E.o;clear r HG V E A5 hj
 have C4:=D (Q14 M held rs=Qd7 M held rs) (Qdr (by rw[K.o];exact BD.o) (by rw[K.o];exact AY.o)
  (by rw[K.o];exact Q8w λq G=>(by have:=BK.o q G;simp only[Bi]at this;exact this.1)) (by rw[<-AG.o,K.o];exact Q8w BU) CT)
 have C5:=D (Q97 cs) (λc hc x Y=>(by
  have hm:x∈C:=by rw[AG.o,Z8,K.o];exact At0.2 (.inl (Aa _ (List.mem_flatMap.2 ⟨c,hc,Y⟩)))
  obtain⟨q,G,rfl⟩:=Av.1 hm;exact BU.o q G))
 go_wp2_with fail
 generalize wr=wy at *
 go_loopw [14] (λi wr=>∃(j:Nat),j<=cs/\i=I Z j/\Hd (Qxu .int 2 w wr (A (R (g,0)) cs cu) (Qyg C rs cs))/\Hd (∀q:Nat,q<j->(Q51 (Q9 cs q) (Jk C rs q) && Q7k cs q)=Bn)/\Hd (w,wr)) (λi _=>cs.length-(By i).toNat);case atStart=>exact⟨0,Ak _,rfl,C2.o,λq h=>absurd h (Dh _),C3.o⟩
 obtain⟨j,hj,rfl,r,V,E⟩:=hrel;clear C2 CU C3;have A3:=jC E c0;by_cases O:j<cs
 ·obtain⟨b1,o1,rfl,hA⟩:=Rd.elem HC j O
  have AV:=BK.o j O;have A4:=qh (As O);generalize Y:cs[j]=x at hA AV;obtain⟨k,l,v,d,ws⟩:=x;have U:=D (Q9 cs j=(k,l,v,d,ws)) (by rw[Qy O,Y]);have C6:Ze (k,l,v,d,ws)=Bn:=by simp only[Bi]at AV;exact AV.1
  have B7:k=13->ws.length<2:=λe=>by exact Qdn C6 e
  clear AV C6;have W:=qh (hA.kb E);obtain⟨_,_,pw,cw,⟨e0,-,-,-,e4⟩,-,-,-⟩:=W.o.agent;simp only[Ty.sz,Bj]at e0 e4;obtain⟨u0,-⟩:=OwnI.get r.o j (by rw[Y7];exact O);rw[Q2y O]at u0;have A1:=Q3w C rs j;have BR:=A6.o;have D8:=AY.o;have AJ:=D (Q51 (Q9 cs j) (Jk C rs j)=((!(Y9 k)||Jk C rs j==1) && (!(k==13)||((Jk C rs j:Nat):Int)==2-(ws:Int)))) (by simp only[Q51,U.o,aK,aW]);have AW:=D (Q7k cs j=(!(k==13)||V7 cs (cs+1) (2,(j:Int)))) (by simp only[Q7k,U.o,aK]);have B8:=D ((Q51 (Q9 cs j) (Jk C rs j) && Q7k cs j)=Bm->Q14 M held rs=Bm) (λhf=>by rw[C4.o,Qd7,K.o];rw[J5 j O (by rw[<-AG.o];exact hf)];rfl);generalize hun:Jk C rs j=un at *
  have B9:=qh hun;have BT:un<=100000000:=by omega
  have AS:IntKind.i64.wrap (2-(ws:Int))=2-(ws:Int)\/¬k=13:=by
   by_cases e:k=13
   ·left;have:=B7 e;simp only[IntKind.wrap_i64];omega
   exact .inr e
  have BE:(0:Int)<=j:=by omega
  have BF:(j:Int)<cs:=by omega
  clear A1 Y hA hun;have HN:=D (∀q:Nat,q<j+1->(Q51 (Q9 cs q) (Jk C rs q) && Q7k cs q)=Bn\/q=j) (λq G=>by
   by_cases e:q=j
   ·exact .inr e
   exact .inl (V.o q (by omega)))
  by_cases C7:k=13
  ·subst C7
   have D9:IntKind.i64.wrap (2-(ws:Int))=2-(ws:Int):=by simpa using AS
   have X:Y9 13=Bm:=rfl;clear AS B7;cases q1:((un:Int)==2-(ws:Int))with
   |false=>
    have q2:((un:Int) !=2-(ws:Int))=Bn:=by rw[bne,q1];rfl
    go_wp2
    go_quiet((go_at_call 104;first|exact Yt (Qxq (J2 _ _ _ _ _ _ _ _ (W.o.drewN _))) (Qxz X)|exact Yv (Qxq (J2 _ _ _ _ _ _ _ _ (W.o.drewN _))) (Qxz X)))
    go_wp2;go_ret;exact⟨Q2 (B8.o (by rw[AJ.o,q1];simp)).symm,Q8 E _⟩
   |true=>
    have q2:((un:Int) !=2-(ws:Int))=Bm:=by rw[bne,q1];rfl
    have C8:=D (Zc cs (2,(j:Int))=Bn) (by simp only[Zc,Q7,Int.toNat_natCast,U.o,aK];have:Qxi (j:Int) 0 ((cs:Int)-1)=Bn:=Qj.2 ⟨by omega,by omega⟩;rw[this];rfl);go_wp2
    go_quiet((go_at_call 104;first|exact Yt (Qxq (J2 _ _ _ _ _ _ _ _ (W.o.drewN _))) (Qxz X)|exact Yv (Qxq (J2 _ _ _ _ _ _ _ _ (W.o.drewN _))) (Qxz X)))
    have CV:=qh (r.o.kept (Q8 (Ai _ _) nq));have AB:=qh (Q8 E nq);have DA:(wr.drewN nq).cell? _=_:=e0;generalize wr.drewN nq=wn at *
    clear e0 e4 u0 A3;cases y:V7 cs (cs+1) (2,(j:Int))with
    |false=>
     go_wp2_with(go_at_call 105;refine(Qep wn b o M 2 (j:Int) (HM.o.kb AB) (by unfold Qyn;omega) (by unfold Qyn;omega) (by rw[K.o];exact C8.o) (by rw[K.o];exact C5.o)).mono ?_;rintro e w2 ⟨t',a',rfl,J⟩;rw[K.o,y];have L:=qh J;clear J)
     go_ret;exact⟨Q2 (B8.o (by rw[AW.o,y];simp)).symm,(Q0 AB L).alloc (by have:=AB.o.size;have:=L.o.size;omega) _⟩
    |true=>
     go_wp2_with(go_at_call 105;refine(Qep wn b o M 2 (j:Int) (HM.o.kb AB) (by unfold Qyn;omega) (by unfold Qyn;omega) (by rw[K.o];exact C8.o) (by rw[K.o];exact C5.o)).mono ?_;rintro e w2 ⟨t',a',rfl,J⟩;rw[K.o,y];have L:=qh J;clear J)
     go_roundw;case rel=>exact⟨j+1,by omega,by go_num,(show Qxu _ _ _ _ _ _ from(CV.o.kept L).kept (by go_grown)),λq G=>((HN.o q G).elim id λe=>by rw[e,B9.o,AJ.o,AW.o,q1,y];rfl),(show Bp w w _ from(Q0 AB L).alloc (by have:=AB.o.size;have:=L.o.size;omega) _)⟩
     simp[By];omega
  have C9:(k==13)=Bm:=by simp[C7]
  clear AS B7;cases X:Y9 k with
  |false=>
   go_wp2
   go_quiet((go_at_call 104;first|exact Yt (Qxq (J2 _ _ _ _ _ _ _ _ (W.o.drewN _))) (Qxz X)|exact Yv (Qxq (J2 _ _ _ _ _ _ _ _ (W.o.drewN _))) (Qxz X)))
   go_wp2
   go_roundw;case rel=>exact⟨j+1,by omega,by go_num,(show Qxu _ _ _ _ _ _ from r.o.kept (Q8 (Ai _ _) nq)),λq G=>((HN.o q G).elim id λe=>by rw[e,B9.o,AJ.o,AW.o,X,C9];rfl),(show Bp w w _ from Q8 E nq)⟩
   simp[By];omega
  |true=>
   cases q1:((un:Int)==1)with
   |false=>
    have q2:((un:Int) !=1)=Bn:=by rw[bne,q1];rfl
    have y:(un==1)=Bm:=by simp at q1⊢;omega
    go_wp2
    go_quiet((go_at_call 104;first|exact Yt (Qxq (J2 _ _ _ _ _ _ _ _ (W.o.drewN _))) (Qxz X)|exact Yv (Qxq (J2 _ _ _ _ _ _ _ _ (W.o.drewN _))) (Qxz X)))
    go_wp2;go_ret;exact⟨Q2 (B8.o (by rw[AJ.o,X,y];rfl)).symm,Q8 E _⟩
   |true=>
    have q2:((un:Int) !=1)=Bm:=by rw[bne,q1];rfl
    have y:(un==1)=Bn:=by simp at q1⊢;omega
    go_wp2
    go_quiet((go_at_call 104;first|exact Yt (Qxq (J2 _ _ _ _ _ _ _ _ (W.o.drewN _))) (Qxz X)|exact Yv (Qxq (J2 _ _ _ _ _ _ _ _ (W.o.drewN _))) (Qxz X)))
    go_wp2
    go_roundw;case rel=>exact⟨j+1,by omega,by go_num,(show Qxu _ _ _ _ _ _ from r.o.kept (Q8 (Ai _ _) nq)),λq G=>((HN.o q G).elim id λe=>by rw[e,B9.o,AJ.o,AW.o,X,C9,y];rfl),(show Bp w w _ from Q8 E nq)⟩
    simp[By];omega
 have A5:cs<=j:=by omega
 have CW:=D (Qd7 M held rs=Zo (mC M) (Qx (mC M)) (mF M)) (by rw[Qd7,K.o,Q1l (λi hi=>by rw[<-AG.o];exact V.o i (by omega))];rfl);go_wp2_with(go_at_call 106;refine jX (Qsr (HM.o.kb E)) ?_)
 go_ret;exact⟨Q2 (by rw[C4.o,CW.o]),E.o⟩
end Go.Proofs.YtcjngpfigpglfaaGreatDoor
