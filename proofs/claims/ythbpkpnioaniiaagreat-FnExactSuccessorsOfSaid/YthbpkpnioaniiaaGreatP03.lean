import Derived.Test.YthbpkpnioaniiaaGreatP02
set_option maxHeartbeats 40000000
set_option maxRecDepth 100000
set_option linter.all false
namespace Go.Proofs.YthbpkpnioaniiaaGreat
open Go.RowKit Go.Proofs.Tryz
open Go.Value renaming int->I,slice->A
open Go.IntKind renaming i64->Z
open Option renaming none->N,some->R
open And renaming intro->Cg
open Bool renaming true->Bn,false->Bm,and_eq_true->Bl,true_and->Dl,false_and->Cn,and_false->Dp
open Exists renaming intro->Dm
open Go renaming World->Bh,Value->Bk,heap_alloc_new->Bg,Calls->Bq,maxLen->Bp,bodyPost_ret->Ca,Addr->Cm,info_parts->Ch,wpQuiet_nil->Ds
open Go.RowKit renaming Below->Bi,intOf->Bv
open Go.RowKit.Below renaming heap_setCell->Eg,grown->Dr
open Go.Value.slice renaming injEq->Cp
open Int renaming emod_nonneg->Ga,emod_lt_of_pos->Ew
open List renaming length_cons->Bs,replicate->Cl,length_replicate->Ec,length_singleton->Dw,length_append->Bo,length_nil->Ei,length_set->Br,range->Bz,ext_getElem->Hd,countP_append->Hh,countP_cons->Hv,countP_le_length->Dc,length_take->Cj,setIfInBounds_toArray->Ci,set_cons_zero->Cs,set_cons_succ->Cw
open Nat renaming reduceAdd->Bj,add_zero->Cq,zero_add->Cd,le_succ->Hp,mul_one->Cb,not_lt_zero->Da
open Option.some renaming injEq->Bu
theorem Qjo(w:Bh)(a b c d:Bk)(T:TypeId):
  ((w.alloc (.cells #[a,b] T)).alloc (.cells #[c,d] T)).heap[w.heap.size]?=R (.cells #[a,b] T (0,0))/\((w.alloc (.cells #[a,b] T)).alloc (.cells #[c,d] T)).heap[w.heap.size+1]?=R (.cells #[c,d] T (0,0))/\Bi w.heap.size w ((w.alloc (.cells #[a,b] T)).alloc (.cells #[c,d] T)):=by
 refine⟨?_, ?_,by go_grown⟩
 ·rw[Az _ _ _ (by simp)];exact Bg w _
 ·have:=Bg (w.alloc (.cells #[a,b] T)) (.cells #[c,d] T)
  simpa using this
theorem Qh0{w:Bh}{b:Nat}{T:TypeId}{C E:Bk}(h:w.heap[b]?=R (.cells #[C,E] T (0,0)))(B v1:Bk):((w.setCell ⟨b,0,N⟩ B).setCell ⟨b,1,N⟩ v1).heap[b]?=R (.cells #[B,v1] T (0,0)):=
 Z2 (Z2 h)
theorem Qp5{w:Bh}{b c:Nat}{o:Obj}(h:w.heap[c]?=R o)(B:c≠b)(C v1:Bk):((w.setCell ⟨b,0,N⟩ C).setCell ⟨b,1,N⟩ v1).heap[c]?=R o:=by
 rw[Eg _ _ _ _ (by simpa using B),Eg _ _ _ _ (by simpa using B)];exact h
def Q7d(cs:List Qb):Prop:=∀c,c∈cs->∀x,x∈aW c->Zh cs x=Bn
theorem Qb6(w:Bh)(b o:Nat)(m:Qqp)(t a:Int)(h:At Qo w b o m)(it:Qqm t)(ia:Qqm a)(A1:Zh (mC m) (t,a)=Bn)(A2:Q7d (mC m)):
  Bq prog 137 #[.pointer (R ⟨b,o,N⟩),.agg #[I Z t,I Z a]] w λe w'=>∃t' a':Int,e=.returned (.tuple #[.agg #[I Z t',I Z a'],.bool (Jr (mC m) ((mC m).length+1) (t,a))])/\Bi w.heap.size w w':=by
 obtain⟨cs,f,⟨rt,ra⟩,xs⟩:=m;obtain⟨pc,cc,_,_,⟨V,-,-,-,-⟩,-,⟨hc,hm,A3⟩,-⟩:=h.mem;unfold Bp at hm;have HC:=qh A3;have A8:D (Zh cs (t,a)=Bn):=qh (A1);have A9:D (Q7d cs):=qh (A2);have AA:=qh (Cg it ia);have AB:=Ac w _ V;simp only at AB;clear A3 h A1 A2 it ia;go_enter func137,ntmps137;go_wp2_with fail
 obtain⟨H0,H1,hB⟩:=Qjo w (I Z t) (I Z a) (I Z 0) (I Z 0) 40;have A4:=qh H0;have A5:=qh H1;have A6:=qh hB;clear H0 H1 hB
 go_loopw [6] (λu wr=>∃(n:Nat) (C B:Int),n<=cs.length+1/\u=I Z ((n:Int)-1)/\D (wr.heap[w.heap.size]?=R (.cells #[I Z C,I Z B] 40 (0,0)))/\D (wr.heap[w.heap.size+1]?=R (.cells #[I Z 0,I Z 0] 40 (0,0)))/\
  D (Zh cs (C,B)=Bn)/\D (Qqm C/\Qqm B)/\D (Jr cs (cs.length+1) (t,a)=Jr cs n (C,B))/\D (Bi w.heap.size w wr)) (λu _=>((Bv u)+1).toNat)
 case atStart=>exact⟨cs.length+1,t,a,Aj _,by go_num,A4.o,A5.o,A8.o,AA.o,rfl,A6.o⟩
 case round=>
  obtain⟨n,C,B,hn,rfl,J,H,HW,HI,c,K⟩:=hrel;clear A4 A5 A6;have L:=(Am K.o).cell _ _ V;have M:=Q8 J.o (o:=0) rfl;have x1:=Q8 J.o (o:=1) rfl;have O:=Q8 H.o (o:=0) rfl;have P:=Q8 H.o (o:=1) rfl;have S:∀q,wr.frozen? ⟨w.heap.size,q,N⟩=Bm:=λq=>Q0f.free (T:=40) ⟨_,J.o⟩ q;have U:∀q,wr.frozen? ⟨w.heap.size+1,q,N⟩=Bm:=λq=>Q0f.free (T:=40) ⟨_,H.o⟩ q;cases n with
  |zero=>
   have AC:decide ((0:Int)<=((0:Nat):Int)-1)=Bm:=by decide
   go_wp2_with fail
   refine Ca (v:=.tuple #[.agg #[I Z C,I Z B],.bool Bm]) (by simp[results,results137,go_sem,Q8 (Qh0 H.o (I Z C) (I Z B)) (o:=0) rfl,Q8 (Qh0 H.o (I Z C) (I Z B)) (o:=1) rfl]) rfl ?_;exact⟨C,B,by show _=Ending.returned (.tuple #[_,.bool (Jr cs (cs.length+1) (t,a))]);rw[c.o];rfl,(K.o.setCell (by simp) _).setCell (by simp) _⟩
  |succ n=>
   have AC:decide ((0:Int)<=((n+1:Nat):Int)-1)=Bn:=by simp
   by_cases ht:C=2;rotate_left
   ·have i:(C !=2)=Bn:=by simp[ht]
    have W:D (Jr cs (n+1) (C,B)=Bn):=qh (by simp only[Jr,i,Bool.true_or,if_true]);go_wp2_with fail
    go_quiet(fail)
    have F:D ((wr.drewN nq).heap[w.heap.size]?=R (.cells #[I Z C,I Z B] 40 (0,0))):=qh (J.o);have E:D ((wr.drewN nq).heap[w.heap.size+1]?=R (.cells #[I Z 0,I Z 0] 40 (0,0))):=qh (H.o);have G:D (Bi w.heap.size w (wr.drewN nq)):=qh (Q6 K.o _);generalize wr.drewN nq=w1 at *
    clear M x1 O P S U L;have L:=(Am G.o).cell _ _ V;have M:=Q8 F.o (o:=0) rfl;have x1:=Q8 F.o (o:=1) rfl;have O:=Q8 E.o (o:=0) rfl;have P:=Q8 E.o (o:=1) rfl;have S:∀q,w1.frozen? ⟨w.heap.size,q,N⟩=Bm:=λq=>Q0f.free (T:=40) ⟨_,F.o⟩ q;have U:∀q,w1.frozen? ⟨w.heap.size+1,q,N⟩=Bm:=λq=>Q0f.free (T:=40) ⟨_,E.o⟩ q;go_wp2_with fail
    refine Ca (v:=.tuple #[.agg #[I Z C,I Z B],.bool Bn]) (by simp[results,results137,go_sem,Q8 (Qh0 E.o (I Z C) (I Z B)) (o:=0) rfl,Q8 (Qh0 E.o (I Z C) (I Z B)) (o:=1) rfl]) rfl ?_;exact⟨C,B,by show _=Ending.returned (.tuple #[_,.bool (Jr cs (cs.length+1) (t,a))]);rw[c.o,W.o],(G.o.setCell (by simp) _).setCell (by simp) _⟩
   subst ht;have i:((2:Int) !=2)=Bm:=by decide
   have A7:=HW.o;simp only[Zh,Bl,Ql]at A7;obtain⟨⟨g1,g2⟩,-⟩:=A7;have j:B.toNat<cs.length:=by omega
   have g3:B<cs.length:=by omega
   obtain⟨b1,o1,rfl,p⟩:=Rd.elem HC.o B.toNat j;generalize hx:cs[B.toNat]=x at p;have AD:D (x∈cs):=qh (by rw[<-hx];exact As j);obtain⟨k,l,v,d,ws⟩:=x;have r:D (Q7 cs B=(k,l,v,d,ws)):=qh (by unfold Q7;rw[Qx j,hx]);clear hx;obtain⟨_,_,pw,cw,⟨-,-,-,-,s⟩,-,-,⟨v1,v2,hw⟩⟩:=p.agent;simp only[Ty.sz,Bj]at s;unfold Bp at v2;have AE:=(Am K.o).cell _ _ s;have AF:=qh hw;clear p hw;by_cases g:ws.length=0
   ·have AG:((ws.length:Int)==0)=Bn:=by simp[g]
    have W:D (Jr cs (n+1) (2,B)=Bn):=qh (by
     have:((aW (Q7 cs B)).length==0)=Bn:=by rw[r.o];simp[aW,g]
     simp only[Jr,this,Bool.or_true,if_true])
    go_wp2_with fail
    go_quiet(fail)
    have F:D ((wr.drewN nq).heap[w.heap.size]?=R (.cells #[I Z 2,I Z B] 40 (0,0))):=qh (J.o);have E:D ((wr.drewN nq).heap[w.heap.size+1]?=R (.cells #[I Z 0,I Z 0] 40 (0,0))):=qh (H.o);have G:D (Bi w.heap.size w (wr.drewN nq)):=qh (Q6 K.o _);generalize wr.drewN nq=w1 at *
    clear M x1 O P S U L;have L:=(Am G.o).cell _ _ V;have M:=Q8 F.o (o:=0) rfl;have x1:=Q8 F.o (o:=1) rfl;have O:=Q8 E.o (o:=0) rfl;have P:=Q8 E.o (o:=1) rfl;have S:∀q,w1.frozen? ⟨w.heap.size,q,N⟩=Bm:=λq=>Q0f.free (T:=40) ⟨_,F.o⟩ q;have U:∀q,w1.frozen? ⟨w.heap.size+1,q,N⟩=Bm:=λq=>Q0f.free (T:=40) ⟨_,E.o⟩ q;go_wp2_with fail
    refine Ca (v:=.tuple #[.agg #[I Z 2,I Z B],.bool Bn]) (by simp[results,results137,go_sem,Q8 (Qh0 E.o (I Z 2) (I Z B)) (o:=0) rfl,Q8 (Qh0 E.o (I Z 2) (I Z B)) (o:=1) rfl]) rfl ?_;exact⟨2,B,by show _=Ending.returned (.tuple #[_,.bool (Jr cs (cs.length+1) (t,a))]);rw[c.o,W.o],(G.o.setCell (by simp) _).setCell (by simp) _⟩
   ·have AG:((ws.length:Int)==0)=Bm:=by simp[g]
    have z:0<ws.length:=by omega
    obtain⟨b2,o2,rfl,A0⟩:=Rd.elem AF.o 0 z;generalize hy:ws[0]=y at A0;obtain⟨X,Y⟩:=y;obtain⟨y0,y1,AH,AI⟩:=A0.word;simp only[Nat.zero_mul,Cq]at y0 y1;have HY:D (ws.getD 0 (0,0)=(X,Y)):=qh (by rw[Ab,Ad z,hy];rfl);have AJ:D ((X,Y)∈ws):=qh (by rw[<-hy];exact As z);have AK:=qh (Cg AH AI);have W:D (Jr cs (n+1) (2,B)=Jr cs n (X,Y)):=qh (by
     have h1:((aW (Q7 cs B)).length==0)=Bm:=by rw[r.o];simp only[aW,beq_eq_false_iff_ne];exact g
     have h2:(aW (Q7 cs B)).getD 0 (0,0)=(X,Y):=by rw[r.o];exact HY.o
     simp only[Jr,i,h1,Bool.or_self,Bool.false_eq_true,if_false,h2])
    clear A0 hy;go_wp2_with fail
    go_quiet(fail)
    have F:D ((wr.drewN nq).heap[w.heap.size]?=R (.cells #[I Z 2,I Z B] 40 (0,0))):=qh (J.o);have E:D ((wr.drewN nq).heap[w.heap.size+1]?=R (.cells #[I Z 0,I Z 0] 40 (0,0))):=qh (H.o);have G:D (Bi w.heap.size w (wr.drewN nq)):=qh (Q6 K.o _);generalize wr.drewN nq=w1 at *
    clear M x1 O P S U L;have L:=(Am G.o).cell _ _ V;have M:=Q8 F.o (o:=0) rfl;have x1:=Q8 F.o (o:=1) rfl;have O:=Q8 E.o (o:=0) rfl;have P:=Q8 E.o (o:=1) rfl;have S:∀q,w1.frozen? ⟨w.heap.size,q,N⟩=Bm:=λq=>Q0f.free (T:=40) ⟨_,F.o⟩ q;have U:∀q,w1.frozen? ⟨w.heap.size+1,q,N⟩=Bm:=λq=>Q0f.free (T:=40) ⟨_,E.o⟩ q;have AE:=(Am G.o).cell _ _ s;have AL:=(Am G.o).cell _ _ y0;have AM:=(Am G.o).cell _ _ y1;go_wp2_with fail
    go_still_tail 11,(by kernel_rfl)
    go_wp2_with fail
    go_roundw;case rel=>exact⟨n,X,Y,by omega,by go_num,Qh0 F.o _ _,Qp5 E.o (by omega) _ _,A9.o _ AD.o _ AJ.o,AK.o,(show _=_ by rw[c.o,W.o]),(show Bi w.heap.size w _ from((G.o.setCell (by simp) _).setCell (by simp) _).drew)⟩
    case measure=>(simp[Bv]<;>omega)
def Zm(c:Int):Int:=if c==7 then 1 else 2
theorem Q5t(w:Bh)(c:Int):Bq prog 145 #[I Z c] w λe w'=>e=.returned (I Z (Zm c))/\w=w':=by
 go_enter func145,ntmps145;go_wp2;all_goals(go_ret;exact⟨Qm (by simp_all[Zm]),rfl⟩)
theorem Q50(w:Bh)(b o:Nat)(n:List Qb)(h:At Je w b o n):
  Bq prog 185 #[.pointer (R ⟨b,o,N⟩)] w λe w'=>e=.returned (I Z (V6 n))/\w=w':=by
 obtain⟨p,c,O,P,F,C⟩:=h.net;have G:=qh C;clear C h;unfold Bp at F;go_enter func185,ntmps185;go_wp2_with fail
 go_loopw [3,4] (λu i wr=>∃(j:Nat),j<=n.length/\i=I Z j/\u=I Z ((n.take j).foldl (λl x=>max l (aL x)) 0)/\w=wr) (λ_ i _=>n.length-(Bv i).toNat);case atStart=>exact⟨0,Ak _,rfl,by simp,rfl⟩
 case round=>
  obtain⟨j,S,rfl,rfl,rfl⟩:=hrel;by_cases E:j<n.length
  ·obtain⟨T,U,rfl,B⟩:=Rd.elem G.o j E
   have H:D ((n.take (j+1)).foldl (λl x=>max l (aL x)) 0=max ((n.take j).foldl (λl x=>max l (aL x)) 0) (aL n[j])):=qh (by rw[An E,List.foldl_append];rfl);generalize hx:n[j]=x at B;obtain⟨k,l,v,d,ws⟩:=x;have J:=qh hx;clear hx;obtain⟨_,_,_,_,⟨-,K,-,-,-⟩,-,-,-⟩:=B.agent;simp only[Ty.sz,Bj]at K;clear B;generalize hacc:(n.take j).foldl (λl x=>max l (aL x)) 0=acc at *
   clear hacc;go_wp2_with(go_at_call 141;refine(Qjv _ _ _).mono ?_;rintro e w' ⟨rfl,rfl⟩)
   go_roundw;case rel=>exact⟨j+1,by omega,by go_num,by rw[H.o,J.o];rfl,trivial⟩
   case measure=>simp[Bv];omega
  ·have L:n.length<=j:=by omega
   have M:D (n.take j=n):=qh (Ao L);rw[M.o];go_wp2;go_ret;exact⟨rfl,rfl⟩
theorem Q4q(w:Bh)(b o:Nat)(m:Qqp)(L:List Nat)(h:At Qo w b o m)(H:Jw (mC m) (mF m) L)(J:L.length<=1000000):
  Bq prog 144 #[.pointer (R ⟨b,o,N⟩)] w λe w'=>e=.returned (I Z L.length)/\w=w':=by
 obtain⟨cs,f,⟨r,s⟩,xs⟩:=m;obtain⟨t,y,_,_,⟨z,c1,-,-,-⟩,⟨T,-,-⟩,⟨hc,U,K⟩,-⟩:=h.mem;unfold Bp at U;have V:=qh K;have W:D (Jw cs f L):=qh (H);have X:=qh J;clear K h T H J;go_enter func144,ntmps144;go_wp2_with fail
 go_loopw [3,4] (λu i wr=>∃(j:Nat) (q:Int) (B:List Nat),u=I Z j/\i=I Z q/\D (Jw cs q B)/\D (j+B.length=L.length)/\w=wr) (λu _ _=>L.length-(Bv u).toNat);case atStart=>exact⟨0,f,L,rfl,rfl,W.o,Cd _,rfl⟩
 case round=>
  obtain⟨j,q,B,rfl,rfl,C,E,rfl⟩:=hrel;have A0:j<=1000000:=by have:=E.o;have:=X.o;omega
  cases B with
  |nil=>have F:q= -1:=C.o;subst F;have Y:D (L.length=j):=qh (by have:=E.o;simpa using this.symm);go_wp2;go_ret;exact⟨Qm (by rw[Y.o]),rfl⟩
  |cons a B=>
   obtain⟨F,M,-,O⟩:=C.o;subst F;have c:=qh O;have P:D (j+1+B.length=L.length):=qh (by have:=E.o;simp only[Bs]at this;omega);have S:j<L.length:=by have:=P.o;omega
   have g:=qh S;obtain⟨b1,o1,rfl,G⟩:=Rd.elem V.o a M;generalize hx:cs[a]=x at G;obtain⟨k,l,v,d,ws⟩:=x;have n:D (Qn cs a=(k,l,v,d,ws)):=qh (by rw[Qx M,hx]);clear hx;obtain⟨_,_,_,_,⟨-,-,p,-,-⟩,-,-,-⟩:=G.agent;simp only[Ty.sz,Bj]at p;have A1:(a:Int)<cs.length:=by omega
   clear G O S C;go_wp2_with fail
   go_roundw;case rel=>exact⟨j+1,v,B,by go_num,rfl,(show Jw cs v B by have:=c.o;rw[n.o]at this;exact this),P.o,trivial⟩
   case measure=>(have:=g.o;simp[Bv];omega)
theorem Qju(w:Bh)(a s c d:Int):Bq prog 254 #[.agg #[I Z a,I Z s],.agg #[I Z c,I Z d]] w λe w'=>e=.returned (.bool (Q03 (a,s) (c,d)))/\Bi w.heap.size w w':=by
 go_enter func254,ntmps254;go_wp2;all_goals(go_ret;exact⟨Q2 (by simp_all[Q03]),by go_grown⟩)
theorem Vj(w:Bh)(a:Int):Bq prog 189 #[I Z a] w λe w'=>e=.returned (.agg #[I Z 1,I Z a])/\Bi w.heap.size w w':=by
 go_enter func189,ntmps189;go_wp2;refine Ca (v:=.agg #[I Z 1,I Z a]) (by simp[results,results189,go_sem]) rfl ?_;exact⟨rfl,by go_grown⟩
def Q17(n a wo:Int):Int:=if(a+1)%n==wo then((a+1)%n+1)%n else(a+1)%n
theorem Qjl(w:Bh)(b o:Nat)(m:Qqp)(B:List Qqb)(E a C:Int)(h:At Qr w b o (m,B,E))(H:1<=B.length)(J:B.length<=4)(K:0<=a)(L:a<B.length):
  Bq prog 96 #[.pointer (R ⟨b,o,N⟩),I Z a,I Z C] w λe w'=>e=.returned (I Z (Q17 B.length a C))/\w=w':=by
 obtain⟨-,M,O,⟨P,-⟩,-,-⟩:=h.pool;clear h;have F:¬((B.length:Int)=0):=by omega
 have S:((B.length:Int)==0)=Bm:=by rw[beq_eq_false_iff_ne];exact F
 have T:=Ga (a+1) (b:=(B.length:Int)) (by omega);have U:=Ew (a+1) (b:=(B.length:Int)) (by omega);have s1:=Ga ((a+1)%(B.length:Int)+1) (b:=(B.length:Int)) (by omega);have s2:=Ew ((a+1)%(B.length:Int)+1) (b:=(B.length:Int)) (by omega);cases q:((a+1)%(B.length:Int)==C)
 all_goals
  have G:=qh q;go_enter func96,ntmps96;go_wp2;go_ret;exact⟨Qm (by simp only[Q17,G.o];rfl),rfl⟩
theorem Qg7:(prog.info? 185).map (λi=>(i.zero,i.size,i.bytes))=R (R (Value.agg #[I Z 0,I Z 0]),2,16):=by kernel_rfl
theorem Q6b(w:Bh)(b o:Nat)(k l v:Int)(d:List Int)(ws:List Wd)(h:At Q3 w b o (k,l,v,d,ws))(hl:ws.length<=100000000)(z:Option Cm)(A0:Nat)(Y:w.cell? ⟨b,o+3,N⟩=R (A z d.length A0)):
  Bq prog 183 #[.pointer (R ⟨b,o,N⟩)] w λe w'=>∃(C:Option Cm) (E:Nat),e=.returned (.agg #[I Z k,I Z l,I Z v,A z d.length A0,A C (Cl (ws.length+1) ((0:Int),(0:Int))).length E])/\(Qqm k/\Qqm l/\Qqm v)/\
   Qqe Q4 185 w.heap.size w' (A C (Cl (ws.length+1) ((0:Int),(0:Int))).length E) (Cl (ws.length+1) (0,0))/\Bi w.heap.size w w':=by
 obtain⟨H,J,pw,cw,⟨c,M,c2,f,c4⟩,⟨O,i1,i2⟩,⟨d1,d2,hd⟩,⟨w1,w2,hw⟩⟩:=h.agent;rw[f]at Y;simp only[Bu,Cp]at Y;obtain⟨rfl,-,rfl⟩:=Y;have HD:=qh hd;have HI:=qh (Cg O (Cg i1 i2));have HL:=qh hl;clear hd hw h O i1 i2;have A7:=Ac w _ c;simp only at A7;obtain⟨O,A8,A9,AA,AB⟩:=Ch Qg7;go_enter func183,ntmps183;go_upto_region 1 with fail
 go_cut [3] (λx F=>∃(B g:Nat),x=.pointer (R ⟨B,0,N⟩)/\w.heap.size+1<=B/\Q0f F B 128/\Q21 F w.heap.size 128/\
  F.cell? ⟨B,0,N⟩=R (I Z k)/\F.cell? ⟨B,1,N⟩=R (I Z l)/\F.cell? ⟨B,2,N⟩=R (I Z v)/\F.cell? ⟨B,3,N⟩=R (A H d.length J)/\F.cell? ⟨B,4,N⟩=R (A (R ⟨g,0,N⟩) 1 1)/\
  Qqe Q4 185 (w.heap.size+1) F (A (R ⟨g,0,N⟩) 1 1) [(0,0)]/\Bi w.heap.size w F)
 case first=>
  go_region_held3(λw'=>w'.cell? ⟨b,o,N⟩=R (I Z k)/\w'.cell? ⟨b,o+1,N⟩=R (I Z l)/\w'.cell? ⟨b,o+2,N⟩=R (I Z v)/\w'.cell? ⟨b,o+3,N⟩=R (A H d.length J))
   (exact⟨(Am (w:=w) (by go_grown)).cell _ _ c,(Am (w:=w) (by go_grown)).cell _ _ M,(Am (w:=w) (by go_grown)).cell _ _ c2,(Am (w:=w) (by go_grown)).cell _ _ f⟩) (first|fail)
  all_goals(go_wp2_with fail;go_meet)
  ·exact⟨_,_,rfl,by omega,⟨_,(Q5b w _ _ _ _ _ _).2.2⟩,(Q5b w _ _ _ _ _ _).1,Q8 (Q5b w _ _ _ _ _ _).2.2 rfl,Q8 (Q5b w _ _ _ _ _ _).2.2 rfl,Q8 (Q5b w _ _ _ _ _ _).2.2 rfl,Q8 (Q5b w _ _ _ _ _ _).2.2 rfl,Q8 (Q5b w _ _ _ _ _ _).2.2 rfl,Qqe.of_block (t:=Q4) (xs:=[((0:Int),(0:Int))]) (Q5b w _ _ _ _ _ _).2.1 (Aj _) rfl rfl Qm1 (by simp[Bp]),by go_grown⟩
  ·exact⟨_,_,rfl,by omega,⟨_,(Q5b w _ _ _ _ _ _).2.1⟩,(Q5b w _ _ _ _ _ _).1,Q8 (Q5b w _ _ _ _ _ _).2.1 rfl,Q8 (Q5b w _ _ _ _ _ _).2.1 rfl,Q8 (Q5b w _ _ _ _ _ _).2.1 rfl,Q8 (Q5b w _ _ _ _ _ _).2.1 rfl,Q8 (Q5b w _ _ _ _ _ _).2.1 rfl,Qqe.of_block (t:=Q4) (xs:=[((0:Int),(0:Int))]) (Q5b w _ _ _ _ _ _).2.2 (Hp _) rfl rfl Qm1 (by simp[Bp]),by go_grown⟩
 case rest=>
  obtain⟨B,g,rfl,AP,A1,A2,e0,e1,e2,e3,e4,hO,m⟩:=hcut;have AC:=qh m;have HO:=qh hO;have HX:=qh A1;have HR:=qh A2;have AQ:=(Am m).cell _ _ c4;clear m hO A1 A2;go_wp2_with fail
  go_loopw [4] (λi wr=>∃(j:Nat) (u:Bk),j<=ws.length/\i=I Z j/\wr.cell? ⟨B,4,N⟩=R u/\D (Qqe Q4 185 (w.heap.size+1) wr u (Cl (j+1) (0,0)))/\D (Q0f wr B 128)/\D (Q21 wr w.heap.size 128)/\
   D (wr.cell? ⟨B,0,N⟩=R (I Z k)/\wr.cell? ⟨B,1,N⟩=R (I Z l)/\wr.cell? ⟨B,2,N⟩=R (I Z v)/\wr.cell? ⟨B,3,N⟩=R (A H d.length J))/\D (Bi w.heap.size w wr)) (λi _=>ws.length-(Bv i).toNat)
  case atStart=>exact⟨0,_,Ak _,rfl,e4,HO.o,HX.o,HR.o,⟨e0,e1,e2,e3⟩,AC.o⟩
  case round=>
   obtain⟨j,u,hj,rfl,f4,G,S,K,HF,n⟩:=hrel;clear e0 e1 e2 e3 e4 c M c2 f HO HX HR;have AR:=(Am n.o).cell _ _ c4;have hR:=K.o.blk.lt;have hX:=S.o.lt;have fX:=λq=>S.o.free q;obtain⟨P,U⟩:∃P:List (Int×Int),P=Cl (j+1) ((0:Int),(0:Int)):=⟨_,rfl⟩;rw[<-U]at G;have AD:D (P.length=j+1):=qh (by rw[U,Ec]);have HP:=qh U;clear U;obtain⟨C,E,rfl,AS,AT⟩:=G.o.form;by_cases AU:j<ws.length
   ·have AE:Bi w.heap.size w wr:=n.o
    have p:=qh (G.o.ne S.o (by decide));have L:=qh (G.o.ne K.o.blk (by decide));have AV:w.heap.size+1<=wr.heap.size:=by omega
    have A3:∀(T:Array Bk),Qqe Q4 185 (w.heap.size+1) (wr.alloc (.cells T 185)) (A C P.length E) P:=λT=>G.o.kept (by go_grown);have A4:Rd (.slice Q4) (wr.alloc (.cells #[I Z 0,I Z 0] 185)) [A (R ⟨wr.heap.size,0,N⟩) 1 1] [((0:Int),(0:Int))]:=(Qqe.of_block (t:=Q4) (xs:=[((0:Int),(0:Int))]) (Bg wr _) (Aj _) rfl rfl Qm1 (by simp[Bp])).rd rfl;have AF:=qh A3;have AG:=qh A4;clear A3 A4;go_wp2_with(at_builtin;refine Qi _ rfl (.tmp 34) (.tmp 36) 126 rfl (t:=Q4) (v:=A C P.length E) (xs:=P) (ys:=[((0:Int),(0:Int))]) rfl (by decide) (w.heap.size+1) 185 O _ 16 underlying126 A8 A9 AA AB rfl (by decide) rfl rfl (AF.o _) AG.o (by have:=AD.o;have:=HL.o;simp only[Dw];omega) (by simp;omega) ?_;intro v1 w1 V W;have r:=qh W;obtain⟨s,y⟩:∃s:List (Int×Int),s=P++ [((0:Int),(0:Int))]:=⟨_,rfl⟩;rw[<-y]at V;have AH:=qh y;clear y;obtain⟨p1,M,rfl,-,-⟩:=V.form;have A5:=qh V;have X:=(S.o.alloc _).grown W p.o;have A6:=qh X;have g4:=Qic X (Q53 W (o:=4) (by simp;omega) p.o) f4;have gX:=λq=>X.free q;clear V W X)
    have AI:D (∀q,w1.cell? ⟨B,q,N⟩=wr.cell? ⟨B,q,N⟩):=qh (λq=>by rw[Q53 r.o (by rw[Be];omega) p.o,World.cell?_alloc_lt _ _ _ hX]);have AJ:=qh ((K.o.alloc _).grown r.o L.o);have AK:D (Bi w.heap.size w w1):=qh (Dr (AE.alloc (by omega) _) r.o (by rw[Be];omega) (λi hi=>Nat.le_of_succ_le (G.o.block i hi).1));go_roundw;case rel=>exact⟨j+1,_,by omega,by go_num,World.cell?_setCell_same _ _ _ g4,(by
     have:=A5.o.setOther (a:=⟨B,4,N⟩) (A5.o.ne A6.o (by decide)) (A p1 s.length M);exact this.eqL (by rw[AH.o,HP.o,<-Qmx])),A6.o.set _ _,AJ.o.set (by simp only;omega) _,(by
     obtain⟨f0,f1,f2,f3⟩:=HF.o;refine⟨?_, ?_, ?_, ?_⟩<;>(rw[World.cell?_setCell_other _ _ _ _ (by intro e;simp at e),AI.o];assumption)),AK.o.setCell (by simp only;omega) _⟩
    case measure=>simp[Bv];omega
   ·have AW:ws.length<=j:=by omega
    obtain⟨f0,f1,f2,f3⟩:=HF.o;have AX:=λq=>K.o.blk.free q;obtain⟨r0,r1,r2,r3,r4⟩:=K.o.cells;have L:=qh (G.o.ne K.o.blk (by decide));go_wp2_with fail
    obtain⟨s0,s1,s2,s3,s4⟩:=Qq2 K.o (I Z k) (I Z l) (I Z v) (A H d.length J) (A C P.length E);simp only[Qrf,Cd,Bj]at s0 s1 s2 s3 s4;refine Ca (v:=.agg #[I Z k,I Z l,I Z v,A H d.length J,A C P.length E]) (by simp[results,results183,go_sem,s0,s1,s2,s3,s4]) rfl ?_
    have AL:Bi w.heap.size w (((((wr.setCell ⟨w.heap.size,0,N⟩ (I Z k)).setCell ⟨w.heap.size,1,N⟩ (I Z l)).setCell ⟨w.heap.size,2,N⟩ (I Z v)).setCell ⟨w.heap.size,3,N⟩ (A H d.length J)).setCell ⟨w.heap.size,4,N⟩ (A C P.length E)):=
     ((((n.o.setCell (Aj _) _).setCell (Aj _) _).setCell (Aj _) _).setCell (Aj _) _).setCell (Aj _) _
    have AM:=((((G.o.setOther (a:=⟨w.heap.size,0,N⟩) L.o (I Z k)).setOther (a:=⟨w.heap.size,1,N⟩) L.o (I Z l)).setOther (a:=⟨w.heap.size,2,N⟩) L.o (I Z v)).setOther (a:=⟨w.heap.size,3,N⟩) L.o (A H d.length J)).setOther (a:=⟨w.heap.size,4,N⟩) L.o (A C P.length E);have AN:j=ws.length:=by omega
    have AO:P=Cl (ws.length+1) (0,0):=by rw[HP.o,AN]
    obtain⟨h0,h1,h2⟩:=HI.o;rw[<-AO];exact⟨C,E,rfl,⟨h0,h1,h2⟩,AM.lo (Hp _),AL⟩
theorem Qig(w:Bh)(b o:Nat)(k l v:Int)(d:List Int)(ws:List Wd)(h:At Q3 w b o (k,l,v,d,ws))(E:ws.length<=100000000):
  Bq prog 183 #[.pointer (R ⟨b,o,N⟩)] w λe w'=>∃vs,e=.returned (.agg vs.toArray)/\Rd Q3 w' vs (Z7 (k,l,v,d,ws))/\Bi w.heap.size w w':=by
 obtain⟨B,C,_,_,⟨-,-,-,F,-⟩,-,⟨-,-,G⟩,-⟩:=h.agent;exact(Q6b w b o k l v d ws h E B C F).mono λe w' ⟨H,cu,he,⟨h0,h1,h2⟩,ho,hb⟩=>⟨[I Z k,I Z l,I Z v,A B d.length C,A H _ cu],he,⟨[_],_,rfl,⟨rfl,h0⟩,[_],_,rfl,⟨rfl,h1⟩,[_],_,rfl,⟨rfl,h2⟩,[_],[_],rfl,G.kept (Am hb),ho.rd rfl⟩,hb⟩
theorem Rd.agent{w:Bh}{vs:List Bk}{x:Qb}(h:Rd Q3 w vs x):∃(B:Option Cm) (C:Nat) (E:Option Cm) (F:Nat),vs=[I Z (aK x),I Z (aL x),I Z (aV x),A B (aD x).length C,A E (aW x).length F]:=by
 obtain⟨_,_,rfl,⟨rfl,J⟩,_,_,rfl,⟨rfl,K⟩,_,_,rfl,⟨rfl,L⟩,_,_,rfl,G,H⟩:=h;obtain⟨B,C,rfl,M,O,G⟩:=J6 G;obtain⟨E,F,rfl,w1,w2,H⟩:=J6 H;exact⟨B,C,E,F,rfl⟩
theorem Qjs(w:Bh)(b o:Nat)(k l v:Int)(d:List Int)(ws:List Wd)(n:Nat)(h:At Q3 w b o (k,l,v,d,ws))(L:ws.length<=100000000)(W:n<=1500):
  Bq prog 133 #[.pointer (R ⟨b,o,N⟩),I Z n] w λe w'=>e=.returned (.bool (Yg (k,l,v,d,ws) && Q2z n (k,l,v,d,ws)))/\Bi w.heap.size w w':=by
 obtain⟨X,Y,a,c,⟨f,g,i,j,m⟩,⟨p,q,r⟩,⟨s,M,B⟩,⟨w1,w2,O⟩⟩:=h.agent;unfold Bp at M w2;have C:=qh h;have P:=qh L;have t:=Q1o (n:=n) (by omega);clear B O h;by_cases F:k=0
 ·subst F
  go_enter func133,ntmps133;go_wp2_with(go_at_call 88;refine(Js _ _ _ _).mono ?_;rintro e w' ⟨rfl,rfl⟩)
  all_goals(go_ret;exact⟨Q2 (by simp_all[Yg,Q2z,aK,aL,aV,aD,aW]<;>rfl),Ai _ _⟩)
 ·have S:(k==0)=Bm:=by simp[F]
  by_cases G:k=13
  ·subst G
   go_enter func133,ntmps133;go_wp2_with fail
   all_goals(go_ret;exact⟨Q2 (by simp_all[Yg,Q2z,aK,aL,aV,aD,aW]<;>rfl),Ai _ _⟩)
  ·have T:(k==13)=Bm:=by simp[G]
   have H:D ((Yg (k,l,v,d,ws) && Q2z n (k,l,v,d,ws))=(J5 k && Yc (Z7 (k,l,v,d,ws)))):=qh (by simp only[Yg,Q2z,aK,S,T];simp);cases hag:J5 k with
   |false=>
    go_enter func133,ntmps133;go_wp2_with(go_at_call 136;refine(Yl _ _ _ _ _ _ _ _ C.o).mono ?_;rintro e w' ⟨rfl,rfl⟩;rw[hag])
    go_ret;exact⟨Q2 (by rw[H.o,hag];rfl),Ai _ _⟩
   |true=>
    go_enter func133,ntmps133;go_wp2_with(first|(go_at_call 136;refine(Yl _ _ _ _ _ _ _ _ C.o).mono ?_;rintro e w' ⟨rfl,rfl⟩;rw[hag])|(go_at_call 183;refine(Qig _ _ _ _ _ _ _ _ C.o P.o).mono ?_;rintro e w2 ⟨vs,rfl,E,J⟩;obtain⟨u,q1,x,y,rfl⟩:=E.agent;have U:=qh E;have K:=qh J;clear E J)|(go_at_call 182;refine(Q8q _ _ _ _ _ _ _ _ ⟨_,rfl,Q11 (Q8 (Bg w2 _) rfl) (Q8 (Bg w2 _) rfl) (Q8 (Bg w2 _) rfl) (Q8 (Bg w2 _) rfl) (Q8 (Bg w2 _) rfl),U.o.kept (Am (by go_grown))⟩).mono ?_;rintro e z ⟨rfl,B⟩;have V:=qh B;clear B))
    go_ret;exact⟨Q2 (by rw[H.o,hag];rfl),Q0 (show Bi w.heap.size w _ from K.o.alloc (by have:=K.o.size;omega) _) V.o.below⟩
theorem Qn4(w:Bh)(b o:Nat)(m:Qqp)(h:At Qo w b o m)(L:(Z6 m).length<=100000000):
  Bq prog 134 #[.pointer (R ⟨b,o,N⟩)] w λe w'=>∃v,e=.returned v/\Qqe Q4 40 w.heap.size w' v (Z6 m)/\Bi w.heap.size w w':=by
 obtain⟨cs,f,⟨B,C⟩,xs⟩:=m;obtain⟨pc,cc,_,_,⟨M,-,n,p,-⟩,⟨-,O,S⟩,⟨hc,q,T⟩,-⟩:=h.mem;unfold Bp at q;have r:=qh T;have U:D (((B,C)::cs.flatMap aW).length<=100000000):=qh (L);have s:=qh (Cg O S);have y:=Ac w _ M;simp only at y;clear T h L O S;obtain⟨z,A0,A1,A2,A3⟩:=Ch Vx;go_enter func134,ntmps134;go_wp2_with fail
 have V:=qh (Qqe.of_block (t:=Q4) (xs:=[(B,C)]) (Bg w (.cells #[I Z B,I Z C] 40)) (Aj _) rfl rfl (λx G=>by have:x=(B,C):=Bb.1 G;rw[this];exact s.o) (by simp[Bp]));go_loopw [3,4] (λu i wr=>∃(j:Nat),j<=cs.length/\i=I Z j/\D (Qqe Q4 40 w.heap.size wr u ((B,C)::(cs.take j).flatMap aW))/\D (Bi w.heap.size w wr)) (λ_ i _=>cs.length-(Bv i).toNat);case atStart=>exact⟨0,Ak _,rfl,V.o,(show Bi w.heap.size w _ by go_grown)⟩
 case round=>
  obtain⟨j,hj,rfl,E,F⟩:=hrel;clear V n p;have A8:=(Am F.o).cell _ _ M;obtain⟨P,H⟩:∃P:List (Int×Int),P=(B,C)::(cs.take j).flatMap aW:=⟨_,rfl⟩;rw[<-H]at E;have J:=qh H;have HL:D (P.length<=100000000):=qh (by rw[H];have:=Zz (f:=aW) cs j;have:=U.o;simp only[Bs]at *;omega);clear H;obtain⟨pu,cu,rfl,A9,AA⟩:=E.o.form;by_cases W:j<cs.length
  ·obtain⟨b1,o1,rfl,K⟩:=Rd.elem (r.o.kept (Am F.o)) j W
   generalize G:cs[j]=x at K;obtain⟨k,l,v,d,ws⟩:=x;have HX:=qh G;clear G;obtain⟨_,_,pw,cw,⟨-,-,-,-,e4⟩,-,-,⟨w1,w2,X⟩⟩:=K.agent;simp only[Ty.sz,Bj]at e4;have HW:=qh X;clear X K;have Y:D ((cs.take (j+1)).flatMap aW=(cs.take j).flatMap aW++ws):=qh (by rw[Yj W,HX.o];rfl);have A4:D (P.length+ws.length<=100000000):=qh (by have:=Zz (f:=aW) cs (j+1);have h2:=U.o;rw[Y.o]at this;rw[J.o];simp only[Bs,Bo]at *;omega);have a:w.heap.size<=wr.heap.size:=F.o.size;go_wp2_with(at_builtin;refine Qi _ rfl (.tmp 19) (.tmp 27) 132 rfl (t:=Q4) (v:=A pu P.length cu) (xs:=P) (ys:=ws) rfl (by decide) w.heap.size 40 z _ 16 underlying132 A0 A1 A2 A3 rfl (by decide) rfl rfl E.o HW.o (by have:=A4.o;omega) a ?_;intro v1 w1 c g;have A5:=qh g;have A6:=qh c;clear c g)
   go_roundw;case rel=>exact⟨j+1,by omega,by go_num,A6.o.eqL (by rw[J.o,Y.o];rfl),E.o.grew F.o a A5.o⟩
   case measure=>simp[Bv];omega
  ·have A7:cs.length<=j:=by omega
   go_wp2_with fail
   go_ret;refine⟨_,rfl,E.o.eqL ?_,F.o⟩;rw[J.o,Ao A7];rfl
theorem Qij(w:Bh)(b o:Nat)(p:J9)(h:At Qr w b o p)(J:(Qz (pW p)).length<=100000000):
  Bq prog 93 #[.pointer (R ⟨b,o,N⟩)] w λe w'=>∃v,e=.returned v/\Qqe Q4 117 w.heap.size w' v (Qz (pW p))/\Bi w.heap.size w w':=by
 obtain⟨m,B,ac⟩:=p;obtain⟨-,A4,A5,⟨K,-⟩,-,⟨hc,Y,L⟩⟩:=h.pool;unfold Bp at Y;have a:=qh L;have M:D ((B.flatMap wX).length<=100000000):=qh (J);have c:=Ac w _ K;simp only at c;clear L h J;obtain⟨d,g,k,l,n⟩:=Ch J4;go_enter func93,ntmps93;go_wp2_with fail
 have O:=qh (Qqe.of_block (t:=Q4) (xs:=[]) (Bg w (.cells #[] 117)) (Aj _) rfl rfl Q4e.nil (by simp[Bp]));go_loopw [3,4] (λu i wr=>∃(j:Nat),j<=B.length/\i=I Z j/\D (Qqe Q4 117 w.heap.size wr u ((B.take j).flatMap wX))/\D (Bi w.heap.size w wr)) (λ_ i _=>B.length-(Bv i).toNat);case atStart=>exact⟨0,Ak _,rfl,O.o,(show Bi w.heap.size w _ by go_grown)⟩
 case round=>
  obtain⟨j,hj,rfl,C,E⟩:=hrel;clear O;have A6:=(Am E.o).cell _ _ K;obtain⟨P,F⟩:∃P:List (Int×Int),P=(B.take j).flatMap wX:=⟨_,rfl⟩;rw[<-F]at C;have G:=qh F;have HL:D (P.length<=100000000):=qh (by rw[F];have:=Zz (f:=wX) B j;have:=M.o;omega);clear F;obtain⟨q,r,rfl,A7,A8⟩:=C.o.form;by_cases S:j<B.length
  ·obtain⟨b1,o1,rfl,H⟩:=Rd.elem (a.o.kept (Am E.o)) j S
   generalize hx:B[j]=x at H;obtain⟨ph,vi,xs,ls,cs⟩:=x;have s:=qh hx;clear hx;obtain⟨px,cx,_,_,_,_,⟨-,-,y,-,-⟩,-,⟨w1,w2,T⟩,-,-⟩:=H.worker;simp only[Ty.sz,Bj]at y;have z:=qh T;clear T H;have U:D ((B.take (j+1)).flatMap wX=(B.take j).flatMap wX++xs):=qh (by rw[Yj S,s.o];rfl);have A0:D (P.length+xs.length<=100000000):=qh (by have:=Zz (f:=wX) B (j+1);have h2:=M.o;rw[U.o]at this;rw[G.o];simp only[Bo]at *;omega);have V:w.heap.size<=wr.heap.size:=E.o.size;go_wp2_with(at_builtin;refine Qi _ rfl (.tmp 15) (.tmp 23) 41 rfl (t:=Q4) (v:=A q P.length r) (xs:=P) (ys:=xs) rfl (by decide) w.heap.size 117 d _ 16 underlying41 g k l n rfl (by decide) rfl rfl C.o z.o (by have:=A0.o;omega) V ?_;intro v1 w1 W X;have A1:=qh X;have A2:=qh W;clear W X)
   go_roundw;case rel=>exact⟨j+1,by omega,by go_num,A2.o.eqL (by rw[G.o,U.o]),C.o.grew E.o V A1.o⟩
   case measure=>simp[Bv];omega
  ·have A3:B.length<=j:=by omega
   go_wp2_with fail
   go_ret;refine⟨_,rfl,C.o.eqL ?_,E.o⟩;rw[G.o,Ao A3];rfl
abbrev lw(l:Qqt):List Wd:=[l.1,l.2]
theorem Qoe(w:Bh)(b o:Nat)(p:J9)(h:At Qr w b o p)(l:(Vi (pW p)).length<=100000000):
  Bq prog 92 #[.pointer (R ⟨b,o,N⟩)] w λe w'=>∃v,e=.returned v/\Qqe Q4 40 w.heap.size w' v (Vi (pW p))/\Bi w.heap.size w w':=by
 obtain⟨m,B,ac⟩:=p;obtain⟨-,AI,A6,⟨O,-⟩,-,⟨hc,hm,n⟩⟩:=h.pool;unfold Bp at hm;have HC:=qh n;have HZ:D ((B.flatMap λw=>(wL w).flatMap lw).length<=100000000):=qh (l);have A7:=Ac w _ O;simp only at A7;clear n h l;obtain⟨i0,A8,A9,AA,AB⟩:=Ch Vx;go_enter func92,ntmps92;go_wp2_with fail
 have q:=qh (Qqe.of_block (t:=Q4) (xs:=[]) (Bg w (.cells #[] 40)) (Aj _) rfl rfl Q4e.nil (by simp[Bp]));go_loopw [3,4] (λu i wr=>∃(j:Nat),j<=B.length/\i=I Z j/\D (Qqe Q4 40 w.heap.size wr u ((B.take j).flatMap λw=>(wL w).flatMap lw))/\D (Bi w.heap.size w wr)) (λ_ i _=>B.length-(Bv i).toNat);case atStart=>exact⟨0,Ak _,rfl,q.o,(show Bi w.heap.size w _ by go_grown)⟩
 case round=>
  obtain⟨j,hj,rfl,r,S⟩:=hrel;clear q;rename Bh=>wo
  have X:=(Am S.o).cell _ _ O;by_cases s:j<B.length
  ·obtain⟨z,o1,rfl,Y⟩:=Rd.elem HC.o j s
   generalize U:B[j]=x at Y;obtain⟨ph,vi,xs,C,cs⟩:=x;have HX:=qh U;clear U;obtain⟨_,_,pl,cl,_,_,⟨-,-,-,V,-⟩,-,-,⟨w1,w2,hw⟩,-⟩:=Y.worker;simp only[Ty.sz,Bj]at V;unfold Bp at w2;have HW:=qh hw;clear hw Y;have a:=(Am S.o).cell _ _ V;have HS:D (((B.take (j+1)).flatMap λw=>(wL w).flatMap lw)=((B.take j).flatMap λw=>(wL w).flatMap lw)++C.flatMap lw):=qh (by rw[Yj s,HX.o];rfl);have AC:D (((B.take j).flatMap λw=>(wL w).flatMap lw).length+(C.flatMap lw).length<=100000000):=qh (by have:=Zz (f:=λw=>(wL w).flatMap lw) B (j+1);have h2:=HZ.o;rw[HS.o]at this;simp only[Bo]at *;omega);go_wp2_with fail
   go_loopw [3,5] (λu i wr=>∃(k:Nat),k<=C.length/\i=I Z k/\D (Qqe Q4 40 w.heap.size wr u (((B.take j).flatMap λw=>(wL w).flatMap lw)++(C.take k).flatMap lw))/\D (Bi w.heap.size w wr)) (λ_ i _=>C.length-(Bv i).toNat);case atStart=>exact⟨0,Ak _,rfl,(show Qqe _ _ _ _ _ _ by have:=r.o;simpa using this),S.o⟩
   case round=>
    obtain⟨k,hk,rfl,J,K⟩:=hrel;clear X a;have X:=(Am K.o).cell _ _ O;have a:=(Am K.o).cell _ _ V;by_cases A0:k<C.length
    ·obtain⟨L,M,rfl,c⟩:=Rd.elem HW.o k A0
     generalize hy:C[k]=y at c;obtain⟨⟨E,F⟩,⟨G,H⟩⟩:=y;have HY:=qh hy;clear hy;obtain⟨⟨l0,l1,l2,l3⟩,j0,j1,j2,j3⟩:=c.link;simp only[Ty.sz,Bj]at l0 l1 l2 l3;have HF:=qh (Cg (Cg j0 j1) (Cg j2 j3));clear c j0 j1 j2 j3;obtain⟨P,W⟩:∃P:List (Int×Int),P=((B.take j).flatMap λw=>(wL w).flatMap lw)++(C.take k).flatMap lw:=⟨_,rfl⟩;rw[<-W]at J;have HP:=qh W;have A1:D ((C.take (k+1)).flatMap lw=(C.take k).flatMap lw++ [(E,F),(G,H)]):=qh (by rw[Yj A0,HY.o]);have HL:D (P.length+2<=100000000):=qh (by rw[W];have:=Zz (f:=lw) C (k+1);rw[A1.o]at this;have:=AC.o;simp only[Bo,Bs,Ei]at *;omega);clear W;obtain⟨pu,cu,rfl,AJ,AK⟩:=J.o.form;have AL:w.heap.size<=wr.heap.size:=K.o.size;have AD:=Ac wr _ X;have AE:=Ac wr _ a;simp only at AD AE;have AM:Bi w.heap.size w wr:=K.o;have AN:(j:Int)<B.length:=by omega
     have AO:(k:Int)<C.length:=by omega
     have AP:(0:Int)<=j:=by omega
     have AQ:(0:Int)<=k:=by omega
     have A2:∀(T:Array Bk),Qqe Q4 40 w.heap.size (wr.alloc (.cells T 40)).drew (A pu P.length cu) P:=λT=>J.o.kept (show Bi wr.heap.size wr _ by go_grown)
     have A3:Rd (.slice Q4) (wr.alloc (.cells #[I Z E,I Z F,I Z G,I Z H] 40)).drew [A (R ⟨wr.heap.size,0,N⟩) 2 2] [(E,F),(G,H)]:=
      (Qqe.of_block (t:=Q4) (xs:=[(E,F),(G,H)]) (Bg wr _) (Aj _) rfl rfl (λx U=>by
       rcases Aq.1 U with h|h
       ·rw[h];exact HF.o.1
       ·rw[Bb.1 h];exact HF.o.2) (by simp[Bp])).rd rfl
     have AF:=qh A2;have AG:=qh A3;clear A2 A3;go_wp2_with fail
     go_region_held3(λw'=>w'.cell? ⟨b,o+5,N⟩=R (A (R ⟨z,o1,N⟩) B.length A6)/\w'.cell? ⟨z,o1+j * 5+3,N⟩=R (A (R ⟨L,M,N⟩) C.length cl)/\w'.cell? ⟨L,M+k * 4,N⟩=R (I Z E)/\w'.cell? ⟨L,M+k * 4+1,N⟩=R (I Z F)/\w'.cell? ⟨L,M+k * 4+2,N⟩=R (I Z G)/\w'.cell? ⟨L,M+k * 4+3,N⟩=R (I Z H))
      ((refine Qpg (w:=w) ?_ O V l0 l1 l2 l3;first|exact A4.o|go_grown))
      (first|((refine Yp _ rfl (.tmp 29) (.tmp 54) 132 rfl (t:=Q4) (v:=A pu P.length cu) (xs:=P) (ys:=[(E,F),(G,H)]) rfl (by decide) w.heap.size 40 i0 _ 16 underlying132 A8 A9 AA AB rfl (by decide) rfl rfl (AF.o _) AG.o (by have:=HL.o;simp only[Bs,Ei];omega) (by simp;omega) ?_;intro v1 w1 A5 d;have AR:=qh d;have AH:=qh A5;have A4:=qh (Dr (show Bi w.heap.size w _ by go_grown) d (by simp;omega) (λi hi=>(J.o.block i hi).1));clear A5 d)))
     go_wp2_with fail
     go_roundw;case rel=>exact⟨k+1,by omega,by go_num,AH.o.eqL (by rw[HP.o,A1.o,List.append_assoc]),A4.o⟩
     case measure=>simp[Bv];omega
    ·have g:C.length<=k:=by omega
     go_wp2_with fail
     go_roundw;case rel=>exact⟨j+1,by omega,by go_num,J.o.eqL (by rw[HS.o,Ao g]),K.o⟩
     case measure=>simp[Bv];omega
  ·have g:B.length<=j:=by omega
   go_wp2_with fail
   go_ret;refine⟨_,rfl,r.o.eqL ?_,S.o⟩;rw[Ao g];rfl
section
variable {e:TypeId} {B:Nat} {w:Bh} {xs:List Int}
theorem OwnI.head{v:Bk}(h:Qqe .int e B w v xs)(K:0<xs.length):∃g c,v=A (R ⟨g,0,N⟩) xs.length c/\xs.length<=c/\c<=Bp/\Q0f w g e/\B<=g:=by
 rcases h.1.2 with⟨rfl,L⟩|⟨g,C,E,rfl,F,G,H,J,M,O⟩
 ·omega
 ·exact⟨g,C,rfl,H,J,⟨E,G⟩,F⟩
theorem Q76(xs:List Int):Q8p .int xs=xs.map λn=>I Z n:=by
 unfold Q8p;induction xs with
 |nil=>rfl
 |cons x r ih=>rw[List.flatMap_cons,ih,List.map_cons];rfl
theorem OwnI.get{g n c:Nat}(h:Qqe .int e B w (A (R ⟨g,0,N⟩) n c) xs)(i:Nat)(C:i<xs.length):w.cell? ⟨g,i,N⟩=R (I Z xs[i])/\Qqm xs[i]:=by
 refine⟨?_,h.2 _ (As C)⟩;rcases h.1.2 with⟨G,_⟩|⟨K,L,M,F,O,H,P,S,T,J⟩
 ·simp at G
 ·simp only[Cp,Bu,Addr.mk.injEq]at F
  obtain⟨⟨rfl,_,_⟩,_,_⟩:=F;refine Q8 H ?_;have E:=congrArg (λl=>l[i]?) J;simp only[Q76,List.getElem?_map,List.getElem?_eq_getElem C,Option.map_some,Ty.sz,Cb]at E;rw[List.getElem?_take,if_pos C,Array.getElem?_toList]at E;exact E
theorem OwnI.set{g n c:Nat}(h:Qqe .int e B w (A (R ⟨g,0,N⟩) n c) xs)(i:Nat)(S:i<xs.length)(v:Int)(G:Qqm v):
  Qqe .int e B (w.setCell ⟨g,i,N⟩ (I Z v)) (A (R ⟨g,0,N⟩) n c) (xs.set i v):=by
 refine⟨⟨by rw[Q3w rfl,Br], ?_⟩,λx H=> ?_⟩
 ·rcases h.1.2 with⟨C,_⟩|⟨T,U,J,F,K,L,M,O,P,E⟩
  ·simp at C
  ·simp only[Cp,Bu,Addr.mk.injEq]at F
   obtain⟨⟨rfl,_,_⟩,rfl,rfl⟩:=F;refine .inr ⟨g,c,J.setIfInBounds i (I Z v),by rw[Br],K,Z2 L,by rw[Br];exact M,O,by simpa using P, ?_⟩;rw[Br];simp only[Array.toList_setIfInBounds,Q76,List.map_set];rw[Q76]at E;simp only[Ty.sz,Cb]at E⊢;rw[List.take_set,E]
 ·rcases List.mem_or_eq_of_mem_set H with C|C
  ·exact h.2 x C
  ·rw[C];exact G
end
def Qqf(ws rs:List Wd)(n:Nat):List Int:=(Bz n).map λi=>((Jg ws rs i:Nat):Int)
theorem Zo(ws rs:List Wd)(n:Nat):(Qqf ws rs n).length=n:=by simp[Qqf]
theorem Q27{ws rs:List Wd}{n i:Nat}(h:i<n)(B:i<(Qqf ws rs n).length):(Qqf ws rs n)[i]'B=((Jg ws rs i:Nat):Int):=by simp[Qqf]
theorem Qkg(n:Nat):Qqf [] [] n=Cl n 0:=by
 apply Hd
 ·simp[Qqf]
 ·intro i B C;simp[Qqf,Jg]
theorem Qgg{ws:List Wd}{n:Nat}{w:Wd}(C:0<=w.2)(E:w.2.toNat<n):Qqf (ws++ [w]) [] n=(Qqf ws [] n).set w.2.toNat (((Jg ws [] w.2.toNat:Nat):Int)+1):=by
 apply Hd
 ·rw[Br,Zo,Zo]
 ·intro i B F
  rw[Zo]at B;rw[Q27 B,List.getElem_set,Q27 B];simp only[Jg,Hh,Hv,List.countP_nil,Cd,Cq];by_cases e:w.2.toNat=i
  ·have:(w.2==(i:Int))=Bn:=by simp;omega
   rw[if_pos e,this,e];simp
  ·have:(w.2==(i:Int))=Bm:=by simp;omega
   rw[if_neg e,this];simp
theorem Qdo{ws rs:List Wd}{n:Nat}{p:Wd}(H:0<=p.1)(J:p.1<p.2)(K:p.2.toNat<n):
  Qqf ws (rs++ [p]) n=((Qqf ws rs n).set p.1.toNat (((Jg ws rs p.1.toNat:Nat):Int)+1)).set p.2.toNat (((Jg ws rs p.2.toNat:Nat):Int)+1):=by
 apply Hd
 ·simp only[Br,Zo]
 ·intro i C L
  rw[Zo]at C;rw[Q27 C,List.getElem_set,List.getElem_set,Q27 C];simp only[Jg,Hh,Hv,List.countP_nil,Cd];by_cases E:p.2.toNat=i
  ·have F:(p.2==(i:Int))=Bn:=by simp;omega
   have B:(p.1==(i:Int))=Bm:=by simp;omega
   rw[if_pos E,B,F,E];simp;omega
  ·have F:(p.2==(i:Int))=Bm:=by simp;omega
   rw[if_neg E,F];by_cases G:p.1.toNat=i
   ·have B:(p.1==(i:Int))=Bn:=by simp;omega
    rw[if_pos G,B,G];simp;omega
   ·have B:(p.1==(i:Int))=Bm:=by simp;omega
    rw[if_neg G,B];simp
theorem Q2w(ws rs:List Wd)(i:Nat):Jg ws rs i<=ws.length+2 * rs.length:=by
 unfold Jg;have B:=Dc (p:=λw:Wd=>w.2==(i:Int)) (l:=ws);have C:=Dc (p:=λp:Wd=>p.1==(i:Int)) (l:=rs);have E:=Dc (p:=λp:Wd=>p.2==(i:Int)) (l:=rs);omega
theorem Qgo{m:Qqp}{c:Qb}(h:c∈mC m):(aW c).length<=(Z6 m).length:=by
 obtain⟨i,B,rfl⟩:=Av.1 h;have C:=Yj (f:=aW) B;have E:=Zz (f:=aW) (mC m) (i+1);rw[C]at E;simp only[Z6,Bs,Bo]at *
 omega
theorem Q6t{α:Type}{p:α->Bool}{xs:List α}{x:α}(h:x∈xs)(B:p x=Bm):xs.all p=Bm:=by
 rw[List.all_eq_false];exact⟨x,h,by rw[B];simp⟩
theorem Q6w{α:Type}{p:α->Bool}{xs:List α}(h:∀(i:Nat) (B:i<xs.length),p xs[i]=Bn):xs.all p=Bn:=by
 rw[Bf];intro x C;obtain⟨i,B,rfl⟩:=Av.1 C;exact h i B
theorem Q3n:(prog.info? 2).map (λi=>(i.zero,i.size,i.bytes))=R (R (I Z 0),1,8):=by kernel_rfl
def Q9v(m:Qqp)(held rs:List Wd):Bool:=
 (Bz (mC m).length).all (λi=>Q5d (Qn (mC m) i) (Jg (Z6 m++held) rs i) && Q5x (mC m) i) && Zg (mC m) (Z3 (mC m)) (mF m)
theorem Qf8{m:Qqp}{held rs:List Wd}{c:Qb}(B:c∈mC m)(h:(Yg c && Q2z (mC m).length c)=Bm):Q0g m held rs=Bm:=by
 cases ho:Q0g m held rs with
 |false=>rfl
 |true=>exfalso;simp only[Q0g,Bl]at ho;have C:=Bf.1 ho.2.2.1 c B;have E:=Bf.1 (Q8e ho.2.2.2.2.2.2) c B;rw[C,E]at h;simp at h
theorem Qb7{c:Qb}(h:Yg c=Bn)(B:aK c=13):(aW c).length<2:=by
 unfold Yg at h;simp only[B,Bl,decide_eq_true_eq]at h;simp at h;have:=h.2.2.2;exact Int.ofNat_lt.1 this
theorem Qbe{m:Qqp}{held rs:List Wd}(B:Qqz (mC m).length 1 1500=Bn)(C:rs.length<=(mC m).length)(E:(mC m).all Yg=Bn)(F:(Z6 m++held).all (Zh (mC m))=Bn)(G:rs.all (Zx (mC m))=Bn):
  Q0g m held rs=Q9v m held rs:=by
 simp only[Q0g,Q9v,B,C,E,F,G,decide_true,Dl]
theorem Qo7(w:Bh)(b o:Nat)(m:Qqp)(held rs:List Wd)(ph pr:Option Cm)(ch cr:Nat)(h:At Qo w b o m)(hh:Rd (.slice Q4) w [A ph held.length ch] held)(hr:Rd (.slice Q4) w [A pr rs.length cr] rs)
  (T:(Z6 m).length+held.length<=10000000) (CX:rs.length<=100000000):
  Bq prog 91 #[.pointer (R ⟨b,o,N⟩),A ph held.length ch,A pr rs.length cr] w λe w'=>e=.returned (.bool (Q0g m held rs))/\Bi w.heap.size w w':=by
 have HM:=qh h;obtain⟨M,hM⟩:∃M,M=m:=⟨_,rfl⟩;obtain⟨cs,f,⟨rt,ra⟩,xs⟩:=m;obtain⟨pc,cc,_,_,⟨c0,-,-,-,-⟩,-,⟨hc,hm,BA⟩,-⟩:=h.mem;have K:D (mC M=cs):=qh (by rw[hM];rfl);rw[<-hM]at HM T⊢;unfold Bp at hm;have HC:=qh BA;have HH:=qh hh;have HR:=qh hr;have HZ:=qh T;have CA:=Ac w _ c0;simp only at CA;clear BA h hh hr T hM;by_cases AC:Qqz cs.length 1 1500=Bn/\rs.length<=cs.length;rotate_left
 ·have HF:D (Q0g M held rs=Bm):=qh (by
   simp only[Q0g,K.o];rcases Decidable.not_and_iff_or_not.1 AC with h|h
   ·rw[show Qqz cs.length 1 1500=Bm by simpa using h];rfl
   ·simp[h])
  cases A2:Qqz cs.length 1 1500 with
  |false=>
   clear AC;go_enter func91,ntmps91;go_wp2_with(go_at_call 88;refine(Js _ _ _ _).mono ?_;rintro e w' ⟨rfl,rfl⟩;rw[A2])
   go_ret;exact⟨Q2 HF.o.symm,Ai _ _⟩
  |true=>
   have BB:(cs.length:Int)<rs.length:=by simp[A2]at AC;omega
   clear AC;go_enter func91,ntmps91;go_wp2_with(go_at_call 88;refine(Js _ _ _ _).mono ?_;rintro e w' ⟨rfl,rfl⟩;rw[A2])
   go_ret;exact⟨Q2 HF.o.symm,Ai _ _⟩
 obtain⟨A2,AX⟩:=AC;have BB:decide (cs.length<rs.length)=Bm:=by simp;omega
 have CB:=Ql.1 A2;have BC:cs.length<=1500:=by omega
 have CY:1<=cs.length:=by omega
 have BD:=qh A2;have AY:=qh AX;clear CB AX;obtain⟨i0,CC,CD,CE,CF⟩:=Ch Q3n;obtain⟨i1,BE,BF,CG,CH⟩:=Ch Vx;go_enter func91,ntmps91;go_wp2_with(go_at_call 88;refine(Js _ _ _ _).mono ?_;rintro e w' ⟨rfl,rfl⟩;rw[BD.o])
 clear A2 BB;have BG:=qh (Qqe.of_block (t:=.int) (xs:=[]) (Bg w (.cells #[] 2)) (Aj _) rfl rfl Q4e.nil (by simp[Bp]));go_loopw [8,9] (λu i wr=>∃(j:Nat),j<=cs.length/\i=I Z j/\D (Qqe .int 2 w.heap.size wr u (Cl j 0))/\D (∀(q:Nat) (G:q<cs.length),q<j->(Yg cs[q] && Q2z cs.length cs[q])=Bn)/\D (Bi w.heap.size w wr)) (λ_ i _=>cs.length-(Bv i).toNat);case atStart=>exact⟨0,Ak _,rfl,BG.o,λq _ h=>absurd h (Da _),(show Bi w.heap.size w _ by go_grown)⟩
 case round=>
  obtain⟨j,hj,rfl,HO,V,E⟩:=hrel;clear BG;have A3:=(Am E.o).cell _ _ c0;by_cases O:j<cs.length
  ·obtain⟨b1,o1,rfl,hA⟩:=Rd.elem (HC.o.kept (Am E.o)) j O
   have A4:=qh (As O);generalize Y:cs[j]=x at hA;have U:=qh Y;clear Y;obtain⟨k,l,v,d,ws⟩:=x;simp only[Ty.sz,Bj]at hA;have W:=qh hA;clear hA;have A6:D (ws.length<=100000000):=qh (by have h1:=Qgo (m:=M) (c:=cs[j]) (by rw[K.o];exact A4.o);rw[U.o]at h1;have h2:=HZ.o;simp only[aW]at h1;omega);cases hok:(Yg (k,l,v,d,ws) && Q2z cs.length (k,l,v,d,ws))with
   |false=>
    have z:=qh hok;clear hok;go_wp2_with(go_at_call 133;refine(Qjs _ _ _ _ _ _ _ _ _ W.o A6.o BC).mono ?_;rintro e w' ⟨rfl,J⟩;rw[z.o];have L:=qh J;clear J)
    go_ret;exact⟨Q2 (Qf8 (c:=cs[j]) (by rw[K.o];exact A4.o) (by rw[U.o,K.o];exact z.o)).symm,Q0 E.o L.o⟩
   |true=>
    have z:=qh hok;clear hok;obtain⟨P,hP⟩:∃P:List Int,P=Cl j 0:=⟨_,rfl⟩;rw[<-hP]at HO;have HP:=qh hP;have CI:D (P.length=j):=qh (by rw[hP,Ec]);clear hP;obtain⟨pu,cu,rfl,BH,CJ⟩:=HO.o.form;have AZ:w.heap.size<=wr.heap.size:=E.o.size;go_wp2_with(first|(go_at_call 133;refine(Qjs _ _ _ _ _ _ _ _ _ W.o A6.o BC).mono ?_;rintro e w2 ⟨rfl,J⟩;rw[z.o];have L:=qh J;have AK:=J.size;clear J)|(at_builtin;refine Qi _ rfl (.tmp 51) (.tmp 52) 63 rfl (t:=.int) (v:=A pu P.length cu) (xs:=P) (ys:=[(0:Int)]) rfl (by decide) w.heap.size 2 i0 _ 8 underlying63 CC CD CE CF rfl (by decide) rfl rfl ((HO.o.kept L.o).kept (show Bi w2.heap.size w2 _ by go_grown)) ((Qqe.of_block (t:=.int) (xs:=[(0:Int)]) (B:=w2.heap.size) (Bg w2 _) (Aj _) rfl rfl (Q2d (t:=.int) (x:=(0:Int)) (by unfold Q4e Qqm;omega)) (by simp[Bp])).rd rfl) (by have:=CI.o;simp only[Dw];omega) (by simp;omega) ?_;intro v1 w1 AD AE;have AL:=qh AE;have A7:=qh AD;clear AD AE))
    go_roundw;case rel=>exact⟨j+1,by omega,by go_num,A7.o.eqL (by rw[HP.o,<-List.replicate_succ']),λq G BI=>(by
     by_cases AF:q=j
     ·subst AF;rw[U.o];exact z.o
     ·exact V.o q G (by omega)),Dr ((Q0 E.o L.o).alloc (by omega) _) AL.o (by simp;omega) (λi hi=>(HO.o.block i hi).1)⟩
    case measure=>simp[Bv];omega
  ·have A5:cs.length<=j:=by omega
   have BJ:j=cs.length:=by omega
   have BK:D (∀(q:Nat) (G:q<cs.length),(Yg cs[q] && Q2z cs.length cs[q])=Bn):=qh (λq G=>V.o q G (by omega));have AM:D (Qqe .int 2 w.heap.size wr u8 (Qqf [] [] cs.length)):=qh (HO.o.eqL (by rw[BJ,<-Qkg]));clear BJ V HO;obtain⟨g,cu,rfl,BH,CJ,BL,B0⟩:=OwnI.head AM.o (by rw[Zo];omega);rw[Zo]at AM BH;rw[Zo];have BM:=qh BL;clear BL;have CK:D ((Z6 M).length<=100000000):=qh (by have:=HZ.o;omega);have AZ:w.heap.size<=wr.heap.size:=E.o.size;go_wp2_with(first|(go_at_call 134;refine(Qn4 _ _ _ _ (HM.o.kept (Am E.o)) CK.o).mono ?_;rintro e w2 ⟨vw,rfl,B1,J⟩;obtain⟨pw,cw,rfl,-,-⟩:=B1.form;have B2:=qh B1;have L:=qh J;have AK:=J.size;clear J B1)|(at_builtin;refine Qi _ rfl (.tmp 55) (.tmp 56) 132 rfl (t:=Q4) (v:=A pw (Z6 M).length cw) (xs:=Z6 M) (ys:=held) rfl (by decide) wr.heap.size 40 i1 _ 16 underlying132 BE BF CG CH rfl (by decide) rfl rfl B2.o (HH.o.kept ((Am E.o).trans (Am L.o))) (by have:=HZ.o;omega) AK ?_;intro v1 w1 AD AE;have AL:=qh AE;have A7:=qh AD;clear AD AE))
   have AN:Bi wr.heap.size wr w1:=Dr L.o AL.o AK (λi hi=>(B2.o.block i hi).1);obtain⟨C,AO⟩:∃C:List Wd,C=Z6 M++held:=⟨_,rfl⟩;rw[<-AO]at A7;have AG:=qh AO;have A6:D (C.length<=10000000):=qh (by rw[AO,Bo];exact HZ.o);obtain⟨pv,cv,rfl,CL,-⟩:=A7.o.form;have BN:=qh (A7.o.lo AZ);have BO:=qh (AM.o.kept AN);have BP:=qh (BM.o.kept AN);have BQ:=qh (Q0 E.o AN);clear AN AL B2 L A7 AK E AM BM AO A3 AZ;generalize w1=wz at *
   go_loopw [11] (λi wr=>∃(j:Nat),j<=C.length/\i=I Z j/\D (Qqe .int 2 w.heap.size wr (A (R ⟨g,0,N⟩) cs.length cu) (Qqf (C.take j) [] cs.length))/\D (Qqe Q4 40 w.heap.size wr (A pv C.length cv) C)/\D (Q0f wr g 2)/\D (∀(q:Nat) (G:q<C.length),q<j->Zh cs C[q]=Bn)/\D (Bi w.heap.size w wr)) (λi _=>C.length-(Bv i).toNat);case atStart=>exact⟨0,Ak _,rfl,BO.o.eqL (by simp),BN.o,BP.o,λq _ h=>absurd h (Da _),BQ.o⟩
   case round=>
    obtain⟨j,hj,rfl,r,HP,HG,V,E⟩:=hrel;clear BO BN BP BQ;have BR:C.length<=10000000:=A6.o;by_cases O:j<C.length
    ·obtain⟨bw,ow,rfl,hE⟩:=Rd.elem (HP.o.rd rfl) j O
     have A4:=qh (As O);generalize Y:C[j]=x at hE;obtain⟨t,a⟩:=x;have U:=qh Y;clear Y;obtain⟨y0,y1,it,ia⟩:=hE.word;simp only[Ty.sz,Bj]at y0 y1;have HI:=qh (Cg it ia);clear hE it ia;have HS:D (C.take (j+1)=C.take j++ [(t,a)]):=qh (by rw[An O,U.o]);cases hok:Zh cs (t,a)with
     |false=>
      have z:=qh hok;clear hok;go_wp2_with(go_at_call 135;refine(Qkj _ _ _ _ _ _ (HM.o.kept (Am E.o)) HI.o.1 HI.o.2).mono ?_;rintro e w' ⟨rfl,J⟩;rw[K.o,z.o];have L:=qh J;clear J)
      go_ret;refine⟨Q2 ?_,Q0 E.o L.o⟩;have hf:(Z6 M++held).all (Zh (mC M))=Bm:=by rw[<-AG.o,K.o];exact Q6t A4.o (by rw[U.o,z.o])
      simp only[Q0g,hf,Cn,Dp]
     |true=>
      have BS:=hok;simp only[Zh,Bl,Ql]at BS;obtain⟨⟨g1,g2⟩,-⟩:=BS;have A0:a.toNat<cs.length:=by omega
      have g3:a<cs.length:=by omega
      obtain⟨u0,-⟩:=OwnI.get r.o a.toNat (by rw[Zo];exact A0);rw[Q27 A0]at u0;have A1:=Q2w (C.take j) [] a.toNat;rw[Cj]at A1;have AH:=qh (Qgg (ws:=C.take j) (n:=cs.length) (w:=(t,a)) g1 A0);simp only at AH;generalize hun:Jg (C.take j) [] a.toNat=un at *
      have BT:un<=10000000:=by simp only[Ei]at A1;omega
      have z:=qh hok;clear hok A1 hun;have CM:=qh (HP.o.ne HG.o (by decide));have CN:=HG.o.lt;go_wp2_with(go_at_call 135;refine(Qkj _ _ _ _ _ _ (HM.o.kept (Am E.o)) HI.o.1 HI.o.2).mono ?_;rintro e w2 ⟨rfl,J⟩;rw[K.o,z.o];have L:=qh J;have y0:=(Am J).cell _ _ y0;have y1:=(Am J).cell _ _ y1;have u0:=(Am J).cell _ _ u0;have fG:=λq=>(HG.o.kept J).free q;clear J)
      go_roundw;case rel=>exact⟨j+1,by omega,by go_num,(show Qqe _ _ _ _ _ _ from(OwnI.set (r.o.kept L.o) a.toNat (by rw[Zo];exact A0) _ (by unfold Qqm;omega)).eqL (by rw[HS.o,AH.o])),(show Qqe _ _ _ _ _ _ from(HP.o.kept L.o).setOther (a:=⟨g,a.toNat,N⟩) CM.o _),(show Q0f _ _ _ from(HG.o.kept L.o).set _ _),λq G BI=>(by
       by_cases AF:q=j
       ·subst AF;rw[U.o];exact z.o
       ·exact V.o q G (by omega)),(show Bi w.heap.size w _ from(Q0 E.o L.o).setCell B0 _)⟩
      case measure=>simp[Bv];omega
    ·have A5:C.length<=j:=by omega
     have BU:D (∀(q:Nat) (G:q<C.length),Zh cs C[q]=Bn):=qh (λq G=>V.o q G (by omega));have BV:=qh (r.o.eqL (by rw[Ao A5]:_=Qqf C [] cs.length));have BW:=qh HG.o;have BX:=qh E.o;clear r HP HG V E A5 hj CL;have AX:=AY.o;have CZ:=Q1o (n:=cs.length) (by omega);go_wp2_with fail
     generalize wr=wy at *
     go_loopw [12] (λi wr=>∃(j:Nat),j<=rs.length/\i=I Z j/\D (Qqe .int 2 w.heap.size wr (A (R ⟨g,0,N⟩) cs.length cu) (Qqf C (rs.take j) cs.length))/\D (Q0f wr g 2)/\D (∀(q:Nat) (G:q<rs.length),q<j->Zx cs rs[q]=Bn)/\D (Bi w.heap.size w wr)) (λi _=>rs.length-(Bv i).toNat);case atStart=>exact⟨0,Ak _,rfl,BV.o.eqL (by simp),BW.o,λq _ h=>absurd h (Da _),BX.o⟩
     case round=>
      obtain⟨j,hj,rfl,r,HG,V,E⟩:=hrel;clear BV BW BX;by_cases O:j<rs.length
      ·obtain⟨br,D0,rfl,hE⟩:=Rd.elem (HR.o.kept (Am E.o)) j O
       have A4:=qh (As O);generalize Y:rs[j]=x at hE;obtain⟨S,pb⟩:=x;have U:=qh Y;clear Y;obtain⟨y0,y1,it,ia⟩:=hE.word;simp only[Ty.sz,Bj]at y0 y1;have it:=it.bd;have ia:=ia.bd;clear hE;have A3:=(Am E.o).cell _ _ c0;have CO:=Ac wr _ A3;simp only at CO;have CN:=HG.o.lt;have HS:D (rs.take (j+1)=rs.take j++ [(S,pb)]):=qh (by rw[An O,U.o]);have HF:D (Zx cs (S,pb)=Bm->Q0g M held rs=Bm):=qh (λhf=>by
        have:rs.all (Zx (mC M))=Bm:=by rw[K.o];exact Q6t A4.o (by rw[U.o];exact hf)
        simp only[Q0g,this,Cn,Dp])
       go_wp2_with fail
       obtain⟨m0,m1,hB⟩:=Qkb wr (I Z S) (I Z pb) 117;have A8:=(Am hB).cell _ _ A3;have A9:=qh hB;generalize wr.alloc (Obj.cells #[I Z S,I Z pb] 117)=W1 at *
       have AI:=qh (Am (Q0 E.o A9.o));clear hB A3 y0 y1;cases q0:Qqz pb 1 ((cs.length:Int)-1)with
       |false=>
        (refine Z0 (λw'=>Bi W1.heap.size W1 w') (by kernel_rfl) (by kernel_rfl) (Ai _ _).drew ?_;(repeat(first|go_big_quiet_skip|(go_big_quiet_want;apply Dm;refine⟨λw' F=> ?_, ?_⟩;(focus(have AP:=(Am F).cell _ _ m0;have AQ:=(Am F).cell _ _ m1;have AR:=(Am F).cell _ _ A8;go_simp;first|done|with_reducible rfl|(first|(go_at_call 88;exact(Js _ _ _ _).mono λe s ⟨H,hb⟩=>⟨by rw[H,q0],hb▸F⟩))));simp only[Act.put,Ci,Cs,Cw];go_big_quiet_on)));refine Ds ?_;intro wz T)
        go_wp2;go_ret;exact⟨Q2 (HF.o (by simp only[Zx,q0,Cn])).symm,Q0 (Q0 E.o A9.o) T⟩
       |true=>
        have g1:=Ql.1 q0;have AS:IntKind.i64.wrap (pb-1)=pb-1:=by simp only[IntKind.wrap_i64];omega
        cases q1:Qqz S 0 (pb-1)with
        |false=>
         (refine Z0 (λw'=>Bi W1.heap.size W1 w') (by kernel_rfl) (by kernel_rfl) (Ai _ _).drew ?_;(repeat(first|go_big_quiet_skip|(go_big_quiet_want;apply Dm;refine⟨λw' F=> ?_, ?_⟩;(focus(have AP:=(Am F).cell _ _ m0;have AQ:=(Am F).cell _ _ m1;have AR:=(Am F).cell _ _ A8;go_simp;first|done|with_reducible rfl|(first|(go_at_call 88;exact(Js _ _ _ _).mono λe s ⟨H,hb⟩=>⟨by rw[H,q0],hb▸F⟩)|(go_at_call 88;exact(Js _ _ _ _).mono λe s ⟨H,hb⟩=>⟨by rw[H,q1],hb▸F⟩))));simp only[Act.put,Ci,Cs,Cw];go_big_quiet_on)));refine Ds ?_;intro wz T)
         go_wp2;go_ret;exact⟨Q2 (HF.o (by simp only[Zx,q0,q1,Cn,Dp])).symm,Q0 (Q0 E.o A9.o) T⟩
        |true=>
         have g2:=Ql.1 q1;have AA:pb.toNat<cs.length:=by omega
         have A0:S.toNat<cs.length:=by omega
         have g3:pb<cs.length:=by omega
         have g4:S<cs.length:=by omega
         have g5:(0:Int)<=pb:=by omega
         obtain⟨b1,o1,CP,AT⟩:=Rd.elem HC.o S.toNat A0;obtain⟨b2,o2,BY,AU⟩:=Rd.elem HC.o pb.toNat AA;subst CP;simp only[Bu,Addr.mk.injEq,and_true]at BY;obtain⟨rfl,rfl⟩:=BY;generalize hx1:cs[S.toNat]=x1 at AT;generalize hx2:cs[pb.toNat]=x2 at AU;obtain⟨k1,l1,v1,d1,D1⟩:=x1;obtain⟨k2,l2,v2,d2,D2⟩:=x2;have CQ:D (aK (Q7 cs S)=k1):=qh (by unfold Q7;rw[Qx A0,hx1];rfl);have CR:D (aK (Q7 cs pb)=k2):=qh (by unfold Q7;rw[Qx AA,hx2];rfl);simp only[Ty.sz,Bj]at AT AU;have B3:=qh AT;have BZ:=qh AU;clear AT AU hx1 hx2;have B4:D (Zx cs (S,pb)=(J5 k1 && J5 k2)):=qh (by simp only[Zx,q0,q1,CQ.o,CR.o,Dl]);cases q2:J5 k1 with
         |false=>
          (refine Z0 (λw'=>Bi W1.heap.size W1 w') (by kernel_rfl) (by kernel_rfl) (Ai _ _).drew ?_;(repeat(first|go_big_quiet_skip|(go_big_quiet_want;apply Dm;refine⟨λw' F=> ?_, ?_⟩;(focus(have AP:=(Am F).cell _ _ m0;have AQ:=(Am F).cell _ _ m1;have AR:=(Am F).cell _ _ A8;go_simp;first|done|with_reducible rfl|(first|(go_at_call 88;exact(Js _ _ _ _).mono λe s ⟨H,hb⟩=>⟨by rw[H,q0],hb▸F⟩)|(go_at_call 88;exact(Js _ _ _ _).mono λe s ⟨H,hb⟩=>⟨by rw[H,q1],hb▸F⟩)|(go_at_call 136;exact(Yl _ _ _ _ _ _ _ _ (B3.o.kept (AI.o.trans (Am F)))).mono λe s ⟨H,hb⟩=>⟨by rw[H,q2],hb▸F⟩))));simp only[Act.put,Ci,Cs,Cw];go_big_quiet_on)));refine Ds ?_;intro wz T)
          go_wp2;go_ret;exact⟨Q2 (HF.o (by rw[B4.o,q2];rfl)).symm,Q0 (Q0 E.o A9.o) T⟩
         |true=>
          cases y:J5 k2 with
          |false=>
           (refine Z0 (λw'=>Bi W1.heap.size W1 w') (by kernel_rfl) (by kernel_rfl) (Ai _ _).drew ?_;(repeat(first|go_big_quiet_skip|(go_big_quiet_want;apply Dm;refine⟨λw' F=> ?_, ?_⟩;(focus(have AP:=(Am F).cell _ _ m0;have AQ:=(Am F).cell _ _ m1;have AR:=(Am F).cell _ _ A8;go_simp;first|done|with_reducible rfl|(first|(go_at_call 88;exact(Js _ _ _ _).mono λe s ⟨H,hb⟩=>⟨by rw[H,q0],hb▸F⟩)|(go_at_call 88;exact(Js _ _ _ _).mono λe s ⟨H,hb⟩=>⟨by rw[H,q1],hb▸F⟩)|(go_at_call 136;exact(Yl _ _ _ _ _ _ _ _ (B3.o.kept (AI.o.trans (Am F)))).mono λe s ⟨H,hb⟩=>⟨by rw[H,q2],hb▸F⟩)|(go_at_call 136;exact(Yl _ _ _ _ _ _ _ _ (BZ.o.kept (AI.o.trans (Am F)))).mono λe s ⟨H,hb⟩=>⟨by rw[H,y],hb▸F⟩))));simp only[Act.put,Ci,Cs,Cw];go_big_quiet_on)));refine Ds ?_;intro wz T)
           go_wp2;go_ret;exact⟨Q2 (HF.o (by rw[B4.o,q2,y];rfl)).symm,Q0 (Q0 E.o A9.o) T⟩
          |true=>
           (refine Z0 (λw'=>Bi W1.heap.size W1 w') (by kernel_rfl) (by kernel_rfl) (Ai _ _).drew ?_;(repeat(first|go_big_quiet_skip|(go_big_quiet_want;apply Dm;refine⟨λw' F=> ?_, ?_⟩;(focus(have AP:=(Am F).cell _ _ m0;have AQ:=(Am F).cell _ _ m1;have AR:=(Am F).cell _ _ A8;go_simp;first|done|with_reducible rfl|(first|(go_at_call 88;exact(Js _ _ _ _).mono λe s ⟨H,hb⟩=>⟨by rw[H,q0],hb▸F⟩)|(go_at_call 88;exact(Js _ _ _ _).mono λe s ⟨H,hb⟩=>⟨by rw[H,q1],hb▸F⟩)|(go_at_call 136;exact(Yl _ _ _ _ _ _ _ _ (B3.o.kept (AI.o.trans (Am F)))).mono λe s ⟨H,hb⟩=>⟨by rw[H,q2],hb▸F⟩)|(go_at_call 136;exact(Yl _ _ _ _ _ _ _ _ (BZ.o.kept (AI.o.trans (Am F)))).mono λe s ⟨H,hb⟩=>⟨by rw[H,y],hb▸F⟩))));simp only[Act.put,Ci,Cs,Cw];go_big_quiet_on)));refine Ds ?_;intro wz T)
           have B5:=qh (Q0 A9.o T);have CS:D (Zx cs (S,pb)=Bn):=qh (by rw[B4.o,q2,y];rfl);have D3:=(Am T).cell _ _ m0;have D4:=(Am T).cell _ _ m1;have B6:=qh (r.o.kept B5.o);have C0:=qh (HG.o.kept B5.o);have D5:D (wr.heap.size≠g):=qh (by omega);obtain⟨u0,-⟩:=OwnI.get B6.o S.toNat (by rw[Zo];exact A0);obtain⟨u1,-⟩:=OwnI.get B6.o pb.toNat (by rw[Zo];exact AA);rw[Q27 A0]at u0;rw[Q27 AA]at u1;have A1:=Q2w C (rs.take j) S.toNat;have C1:=Q2w C (rs.take j) pb.toNat;rw[Cj]at A1 C1;have AH:=qh (Qdo (ws:=C) (rs:=rs.take j) (n:=cs.length) (p:=(S,pb)) g2.1 (by simp only;omega) AA);simp only at AH;have BR:=A6.o;generalize hun:Jg C (rs.take j) S.toNat=ua at *
           generalize hun':Jg C (rs.take j) pb.toNat=ub at *
           have BT:ua<=100000000:=by omega
           have D6:ub<=100000000:=by omega
           have fG:=λq=>C0.o.free q;have D7:¬S.toNat=pb.toNat:=by omega
           clear A1 C1 hun hun' T m0 m1 A8;go_wp2_with fail
           go_roundw;case rel=>exact⟨j+1,by omega,by go_num,(show Qqe _ _ _ _ _ _ from(OwnI.set (OwnI.set B6.o S.toNat (by rw[Zo];exact A0) (ua+1) (by unfold Qqm;omega)) pb.toNat (by rw[Br,Zo];exact AA) (ub+1) (by unfold Qqm;omega)).eqL (by rw[HS.o,AH.o])),(show Q0f _ _ _ from(C0.o.set _ _).set _ _),λq G BI=>(by
            by_cases AF:q=j
            ·subst AF;rw[U.o];exact CS.o
            ·exact V.o q G (by omega)),(show Bi w.heap.size w _ from((Q0 E.o B5.o).setCell B0 _).setCell B0 _)⟩
           case measure=>simp[Bv];omega
      ·have A5:rs.length<=j:=by omega
       have CT:D (rs.all (Zx (mC M))=Bn):=qh (by rw[K.o];exact Q6w λq G=>V.o q G (by omega));have C2:=qh (r.o.eqL (by rw[Ao A5]:_=Qqf C rs cs.length));have CU:=qh HG.o;have C3:=qh E.o;clear r HG V E A5 hj
       have C4:D (Q0g M held rs=Q9v M held rs):=qh (Qbe (by rw[K.o];exact BD.o) (by rw[K.o];exact AY.o)
        (by rw[K.o];exact Q6w λq G=>(by have:=BK.o q G;simp only[Bl]at this;exact this.1)) (by rw[<-AG.o,K.o];exact Q6w BU.o) CT.o)
       have C5:D (Q7d cs):=qh (λc hc x Y=>(by
        have hm:x∈C:=by rw[AG.o,Z6,K.o];exact At0.2 (.inl (Aa _ (List.mem_flatMap.2 ⟨c,hc,Y⟩)))
        obtain⟨q,G,rfl⟩:=Av.1 hm;exact BU.o q G))
       go_wp2_with fail
       generalize wr=wy at *
       go_loopw [14] (λi wr=>∃(j:Nat),j<=cs.length/\i=I Z j/\D (Qqe .int 2 w.heap.size wr (A (R ⟨g,0,N⟩) cs.length cu) (Qqf C rs cs.length))/\D (∀q:Nat,q<j->(Q5d (Qn cs q) (Jg C rs q) && Q5x cs q)=Bn)/\D (Bi w.heap.size w wr)) (λi _=>cs.length-(Bv i).toNat);case atStart=>exact⟨0,Ak _,rfl,C2.o,λq h=>absurd h (Da _),C3.o⟩
       case round=>
        obtain⟨j,hj,rfl,r,V,E⟩:=hrel;clear C2 CU C3;have A3:=(Am E.o).cell _ _ c0;by_cases O:j<cs.length
        ·obtain⟨b1,o1,rfl,hA⟩:=Rd.elem HC.o j O
         have AV:=BK.o j O;have A4:=qh (As O);generalize Y:cs[j]=x at hA AV;obtain⟨k,l,v,d,ws⟩:=x;have U:D (Qn cs j=(k,l,v,d,ws)):=qh (by rw[Qx O,Y]);have C6:Yg (k,l,v,d,ws)=Bn:=by simp only[Bl]at AV;exact AV.1
         have B7:k=13->ws.length<2:=λe=>by exact Qb7 C6 e
         clear AV C6;have W:=qh (hA.kept (Am E.o));obtain⟨_,_,pw,cw,⟨e0,-,-,-,e4⟩,-,-,-⟩:=W.o.agent;simp only[Ty.sz,Bj]at e0 e4;obtain⟨u0,-⟩:=OwnI.get r.o j (by rw[Zo];exact O);rw[Q27 O]at u0;have A1:=Q2w C rs j;have BR:=A6.o;have D8:=AY.o;have AJ:D (Q5d (Qn cs j) (Jg C rs j)=((!(J5 k)||Jg C rs j==1) && (!(k==13)||((Jg C rs j:Nat):Int)==2-(ws.length:Int)))):=qh (by simp only[Q5d,U.o,aK,aW]);have AW:D (Q5x cs j=(!(k==13)||Jr cs (cs.length+1) (2,(j:Int)))):=qh (by simp only[Q5x,U.o,aK]);have B8:D ((Q5d (Qn cs j) (Jg C rs j) && Q5x cs j)=Bm->Q0g M held rs=Bm):=qh (λhf=>by rw[C4.o,Q9v,K.o];rw[Yo j O (by rw[<-AG.o];exact hf)];rfl);generalize hun:Jg C rs j=un at *
         have B9:=qh hun;have BT:un<=100000000:=by omega
         have AS:IntKind.i64.wrap (2-(ws.length:Int))=2-(ws.length:Int)\/¬k=13:=by
          by_cases e:k=13
          ·left;have:=B7 e;simp only[IntKind.wrap_i64];omega
          ·exact .inr e
         have BE:(0:Int)<=j:=by omega
         have BF:(j:Int)<cs.length:=by omega
         clear A1 Y hA hun;have HN:D (∀q:Nat,q<j+1->(Q5d (Qn cs q) (Jg C rs q) && Q5x cs q)=Bn\/q=j):=qh (λq G=>by
          by_cases e:q=j
          ·exact .inr e
          ·exact .inl (V.o q (by omega)))
         by_cases C7:k=13
         ·subst C7
          have D9:IntKind.i64.wrap (2-(ws.length:Int))=2-(ws.length:Int):=by simpa using AS
          have X:J5 13=Bm:=rfl;clear AS B7;cases q1:((un:Int)==2-(ws.length:Int))with
          |false=>
           have q2:((un:Int) !=2-(ws.length:Int))=Bn:=by rw[bne,q1];rfl
           go_wp2_with fail
           go_quiet((go_at_call 136;first|exact Yi (Qqc (Yl _ _ _ _ _ _ _ _ (W.o.drewN _))) (Qr7 X)|exact Yh (Qqc (Yl _ _ _ _ _ _ _ _ (W.o.drewN _))) (Qr7 X)))
           go_wp2;go_ret;exact⟨Q2 (B8.o (by rw[AJ.o,q1];simp)).symm,Q6 E.o _⟩
          |true=>
           have q2:((un:Int) !=2-(ws.length:Int))=Bm:=by rw[bne,q1];rfl
           have C8:D (Zh cs (2,(j:Int))=Bn):=qh (by simp only[Zh,Q7,Int.toNat_natCast,U.o,aK];have:Qqz (j:Int) 0 ((cs.length:Int)-1)=Bn:=Ql.2 ⟨by omega,by omega⟩;rw[this];rfl);go_wp2_with fail
           go_quiet((go_at_call 136;first|exact Yi (Qqc (Yl _ _ _ _ _ _ _ _ (W.o.drewN _))) (Qr7 X)|exact Yh (Qqc (Yl _ _ _ _ _ _ _ _ (W.o.drewN _))) (Qr7 X)))
           have CV:=qh (r.o.kept (Q6 (Ai _ _) nq));have AB:=qh (Q6 E.o nq);have DA:(wr.drewN nq).cell? _=_:=e0;generalize wr.drewN nq=wn at *
           clear e0 e4 u0 A3;cases y:Jr cs (cs.length+1) (2,(j:Int))with
           |false=>
            go_wp2_with(go_at_call 137;refine(Qb6 wn b o M 2 (j:Int) (HM.o.kept (Am AB.o)) (by unfold Qqm;omega) (by unfold Qqm;omega) (by rw[K.o];exact C8.o) (by rw[K.o];exact C5.o)).mono ?_;rintro e w2 ⟨t',a',rfl,J⟩;rw[K.o,y];have L:=qh J;clear J)
            go_ret;exact⟨Q2 (B8.o (by rw[AW.o,y];simp)).symm,(Q0 AB.o L.o).alloc (by have:=AB.o.size;have:=L.o.size;omega) _⟩
           |true=>
            go_wp2_with(go_at_call 137;refine(Qb6 wn b o M 2 (j:Int) (HM.o.kept (Am AB.o)) (by unfold Qqm;omega) (by unfold Qqm;omega) (by rw[K.o];exact C8.o) (by rw[K.o];exact C5.o)).mono ?_;rintro e w2 ⟨t',a',rfl,J⟩;rw[K.o,y];have L:=qh J;clear J)
            go_roundw;case rel=>exact⟨j+1,by omega,by go_num,(show Qqe _ _ _ _ _ _ from(CV.o.kept L.o).kept (by go_grown)),λq G=>((HN.o q G).elim id λe=>by rw[e,B9.o,AJ.o,AW.o,q1,y];rfl),(show Bi w.heap.size w _ from(Q0 AB.o L.o).alloc (by have:=AB.o.size;have:=L.o.size;omega) _)⟩
            case measure=>simp[Bv];omega
         ·have C9:(k==13)=Bm:=by simp[C7]
          clear AS B7;cases X:J5 k with
          |false=>
           go_wp2_with fail
           go_quiet((go_at_call 136;first|exact Yi (Qqc (Yl _ _ _ _ _ _ _ _ (W.o.drewN _))) (Qr7 X)|exact Yh (Qqc (Yl _ _ _ _ _ _ _ _ (W.o.drewN _))) (Qr7 X)))
           go_wp2_with fail
           go_roundw;case rel=>exact⟨j+1,by omega,by go_num,(show Qqe _ _ _ _ _ _ from r.o.kept (Q6 (Ai _ _) nq)),λq G=>((HN.o q G).elim id λe=>by rw[e,B9.o,AJ.o,AW.o,X,C9];rfl),(show Bi w.heap.size w _ from Q6 E.o nq)⟩
           case measure=>simp[Bv];omega
          |true=>
           cases q1:((un:Int)==1)with
           |false=>
            have q2:((un:Int) !=1)=Bn:=by rw[bne,q1];rfl
            have y:(un==1)=Bm:=by simp at q1⊢;omega
            go_wp2_with fail
            go_quiet((go_at_call 136;first|exact Yi (Qqc (Yl _ _ _ _ _ _ _ _ (W.o.drewN _))) (Qr7 X)|exact Yh (Qqc (Yl _ _ _ _ _ _ _ _ (W.o.drewN _))) (Qr7 X)))
            go_wp2;go_ret;exact⟨Q2 (B8.o (by rw[AJ.o,X,y];rfl)).symm,Q6 E.o _⟩
           |true=>
            have q2:((un:Int) !=1)=Bm:=by rw[bne,q1];rfl
            have y:(un==1)=Bn:=by simp at q1⊢;omega
            go_wp2_with fail
            go_quiet((go_at_call 136;first|exact Yi (Qqc (Yl _ _ _ _ _ _ _ _ (W.o.drewN _))) (Qr7 X)|exact Yh (Qqc (Yl _ _ _ _ _ _ _ _ (W.o.drewN _))) (Qr7 X)))
            go_wp2_with fail
            go_roundw;case rel=>exact⟨j+1,by omega,by go_num,(show Qqe _ _ _ _ _ _ from r.o.kept (Q6 (Ai _ _) nq)),λq G=>((HN.o q G).elim id λe=>by rw[e,B9.o,AJ.o,AW.o,X,C9,y];rfl),(show Bi w.heap.size w _ from Q6 E.o nq)⟩
            case measure=>simp[Bv];omega
        ·have A5:cs.length<=j:=by omega
         have CW:D (Q9v M held rs=Zg (mC M) (Z3 (mC M)) (mF M)):=qh (by rw[Q9v,K.o,Q13 (λi hi=>by rw[<-AG.o];exact V.o i (by omega))];rfl);go_wp2_with(go_at_call 138;refine(Qmj _ _ _ _ (HM.o.kept (Am E.o))).mono ?_;rintro e w2 ⟨rfl,rfl⟩)
         go_ret;exact⟨Q2 (by rw[C4.o,CW.o]),E.o⟩
theorem Rd.elemW{w:Bh}{p:Option Cm}{c:Nat}{xs:List Qqb}(h:Rd (.slice Qc) w [A p xs.length c] xs)(i:Nat)(B:i<xs.length):∃b o,p=R ⟨b,o,N⟩/\At Qc w b (o+i * 5) xs[i]:=by
 obtain⟨b,o,rfl,C⟩:=Rd.elem h i B;exact⟨b,o,rfl,C⟩
theorem Qee(w:Bh)(b o:Nat)(p:J9)(h:At Qr w b o p)(hz:(Z6 (pM p)).length+(Vi (pW p)).length<=10000000)(A0:(Qz (pW p)).length<=10000000):
  Bq prog 50 #[.pointer (R ⟨b,o,N⟩)] w λe w'=>e=.returned (.bool (J2 p))/\Bi w.heap.size w w':=by
 have A1:=qh h;obtain⟨P,V⟩:∃P,P=p:=⟨_,rfl⟩;obtain⟨m,B,S⟩:=p;obtain⟨A2,B2,B3,⟨c5,c6⟩,ia,⟨hc,hm,A7⟩⟩:=h.pool;have AI:=qh A2;have A8:D (pM P=m):=qh (by rw[V];rfl);have A9:D (pW P=B):=qh (by rw[V];rfl);have AJ:D (pA P=S):=qh (by rw[V];rfl);rw[<-V]at A1 hz A0⊢;have HZ:=qh hz;have AK:=qh A0;obtain⟨cs,f,⟨g,k⟩,xs⟩:=m;obtain⟨_,_,px,cx,⟨-,-,-,-,c4⟩,-,-,⟨x1,x2,AL⟩⟩:=A2.mem;unfold Bp at hm x2;have HC:=qh A7;have ia:=ia.bd;clear A7 h A2 hz A0 V AL;have HV:D (J2 P=((Qqz B.length 1 4 && xs.length==0) && (B.all (Zw B.length) && ((((B.countP Y3:Nat):Int)==S) && Q0g (cs,f,(g,k),xs) (Vi B) (Qz B))))):=by show J2 P=_;simp only[J2,A8.o,A9.o,AJ.o];rfl
 by_cases T:Qqz B.length 1 4=Bn/\xs.length=0;rotate_left
 ·have G:D (J2 P=Bm):=qh (by
   rw[HV.o];rcases Decidable.not_and_iff_or_not.1 T with h|h
   ·rw[show Qqz B.length 1 4=Bm by simpa using h];rfl
   ·have:(xs.length==0)=Bm:=by simpa using h
    rw[this];simp)
  cases J:Qqz B.length 1 4 with
  |false=>
   clear T;go_enter func50,ntmps50;go_wp2_with(go_at_call 88;refine(Js _ _ _ _).mono ?_;rintro e w' ⟨rfl,rfl⟩;rw[J])
   go_ret;exact⟨Q2 G.o.symm,Ai _ _⟩
  |true=>
   have r:decide (0<xs.length)=Bn:=by simp[J]at T;simp;exact Bc.2 T
   have AA:decide (0<(xs.length:Int))=Bn:=by simp at r⊢;exact r
   clear T;go_enter func50,ntmps50;go_wp2_with(go_at_call 88;refine(Js _ _ _ _).mono ?_;rintro e w' ⟨rfl,rfl⟩;rw[J])
   go_ret;exact⟨Q2 G.o.symm,Ai _ _⟩
 obtain⟨J,s⟩:=T;have AB:D (J2 P=(B.all (Zw B.length) && ((((B.countP Y3:Nat):Int)==S) && Q0g (cs,f,(g,k),xs) (Vi B) (Qz B)))):=qh (by rw[HV.o,J,s];rfl);have r:decide (0<xs.length)=Bm:=by simp[s]
 have AA:decide (0<(xs.length:Int))=Bm:=by simp[s]
 have AM:=Ql.1 J;have B4:B.length<=4:=by omega
 have B5:1<=B.length:=by omega
 have B6:=Q1o (n:=B.length) (by omega);clear AM HV;go_enter func50,ntmps50;go_wp2_with(go_at_call 88;refine(Js _ _ _ _).mono ?_;rintro e w' ⟨rfl,rfl⟩;rw[J])
 clear J r AA s;go_loopw [4,5] (λu i wr=>∃(j:Nat),j<=B.length/\i=I Z j/\u=I Z ((B.take j).countP Y3:Nat)/\D (∀(q:Nat) (t:q<B.length),q<j->Zw B.length B[q]=Bn)/\w=wr) (λ_ i _=>B.length-(Bv i).toNat);case atStart=>exact⟨0,Ak _,rfl,by simp,λq _ h=>absurd h (Da _),rfl⟩
 case round=>
  obtain⟨j,hj,rfl,rfl,HK,rfl⟩:=hrel;by_cases A3:j<B.length
  ·obtain⟨b1,o1,rfl,y⟩:=Rd.elemW HC.o j A3
   have AN:=qh (As A3);have AO:=qh (Q29 (p:=Y3) A3);have AC:=Dc (p:=Y3) (l:=B.take j);rw[Cj]at AC;generalize hx:B[j]=x at y;obtain⟨E,K,ys,C,L⟩:=x;have HX:=qh hx;have HA:=qh y;obtain⟨py,cy,pl,cl,pc,cn,⟨e0,e1,e2,e3,e4⟩,⟨ip,iv⟩,⟨-,y2,-⟩,⟨-,l2,-⟩,⟨-,n2,AD⟩⟩:=y.worker;have W:=qh AD;have X:=qh n2;unfold Bp at y2 l2;clear y hx AD n2;generalize hcn:(B.take j).countP Y3=cnt at *
   have B7:=qh hcn;clear hcn;have G:D (Zw B.length (E,K,ys,C,L)=Bm->J2 P=Bm):=qh (λhf=>by rw[AB.o,Q6t AN.o (by rw[HX.o];exact hf)];rfl);have U:D (Zw B.length (E,K,ys,C,L)=((Qqz E 1 4 && (Qqz K 0 ((B.length:Int)-1) && (Q06 L && decide (C.length<=1500)))) && (E==1||(ys.length==0 && C.length==0)))):=qh (by simp only[Zw,wP,wV,wX,wL,wC];rfl);cases q0:Qqz E 1 4 with
   |false=>
    go_wp2_with(go_at_call 88;refine(Js _ _ _ _).mono ?_;rintro e w' ⟨rfl,rfl⟩;rw[q0])
    go_ret;exact⟨Q2 (G.o (by rw[U.o,q0];rfl)).symm,Ai _ _⟩
   |true=>
    cases q1:Qqz K 0 ((B.length:Int)-1)with
    |false=>
     go_wp2_with(go_at_call 88;refine(Js _ _ _ _).mono ?_;rintro e w' ⟨rfl,rfl⟩;first|rw[q0]|rw[q1])
     go_ret;exact⟨Q2 (G.o (by rw[U.o,q0,q1];rfl)).symm,Ai _ _⟩
    |true=>
     cases q2:Q06 L with
     |false=>
      go_wp2_with(first|(go_at_call 88;refine(Js _ _ _ _).mono ?_;rintro e w' ⟨rfl,rfl⟩;first|rw[q0]|rw[q1])|(go_at_call 89;refine(Q4s _ _ _ _ W.o X.o).mono ?_;rintro e w' ⟨rfl,rfl⟩;rw[q2]))
      go_ret;exact⟨Q2 (G.o (by rw[U.o,q0,q1,q2];rfl)).symm,Ai _ _⟩
     |true=>
      by_cases q3:C.length<=1500;rotate_left
      ·have AP:decide (1500<(C.length:Int))=Bn:=by simp;omega
       have A4:decide (C.length<=1500)=Bm:=by simp;omega
       go_wp2_with(first|(go_at_call 88;refine(Js _ _ _ _).mono ?_;rintro e w' ⟨rfl,rfl⟩;first|rw[q0]|rw[q1])|(go_at_call 89;refine(Q4s _ _ _ _ W.o X.o).mono ?_;rintro e w' ⟨rfl,rfl⟩;rw[q2]))
       go_ret;exact⟨Q2 (G.o (by rw[U.o,q0,q1,q2,A4];rfl)).symm,Ai _ _⟩
      ·have AP:decide (1500<(C.length:Int))=Bm:=by simp;omega
       have A4:decide (C.length<=1500)=Bn:=by simp;omega
       by_cases H:E=1\/(ys.length=0/\C.length=0);rotate_left
       ·have B8:(E !=1)=Bn:=by simp;exact λe=>H (.inl e)
        have z:D (Zw B.length (E,K,ys,C,L)=Bm):=qh (by
         rw[U.o];have Y:(E==1)=Bm:=by simp;exact λe=>H (.inl e)
         have c:(ys.length==0 && C.length==0)=Bm:=by rw[Bool.eq_false_iff];intro hh;simp only[Bl,beq_iff_eq]at hh;exact H (.inr hh)
         rw[Y,c];simp)
        by_cases d:ys.length=0
        ·have M:decide (0<ys.length)=Bm:=by simp[d]
         have AE:decide (0<(ys.length:Int))=Bm:=by simp[d]
         have q6:¬C.length=0:=λe=>H (.inr ⟨d,e⟩);have B9:decide (0<C.length)=Bn:=by simp only[decide_eq_true_eq];omega
         have BA:decide (0<(C.length:Int))=Bn:=by simp only[decide_eq_true_eq];omega
         clear H d q6;go_wp2_with(first|(go_at_call 88;refine(Js _ _ _ _).mono ?_;rintro e w' ⟨rfl,rfl⟩;first|rw[q0]|rw[q1])|(go_at_call 89;refine(Q4s _ _ _ _ W.o X.o).mono ?_;rintro e w' ⟨rfl,rfl⟩;rw[q2]))
         go_ret;exact⟨Q2 (G.o z.o).symm,Ai _ _⟩
        ·have M:decide (0<ys.length)=Bn:=by simp only[decide_eq_true_eq];omega
         have AE:decide (0<(ys.length:Int))=Bn:=by simp only[decide_eq_true_eq];omega
         clear H d;go_wp2_with(first|(go_at_call 88;refine(Js _ _ _ _).mono ?_;rintro e w' ⟨rfl,rfl⟩;first|rw[q0]|rw[q1])|(go_at_call 89;refine(Q4s _ _ _ _ W.o X.o).mono ?_;rintro e w' ⟨rfl,rfl⟩;rw[q2]))
         go_ret;exact⟨Q2 (G.o z.o).symm,Ai _ _⟩
       ·have z:D (Zw B.length (E,K,ys,C,L)=Bn):=qh (by
         rw[U.o,q0,q1,q2,A4];rcases H with h|⟨Y,c⟩
         ·rw[h];rfl
         ·rw[Y,c];simp)
        have M:(E !=1)=Bm\/(decide (0<ys.length)=Bm/\decide (0<C.length)=Bm/\decide (0<(ys.length:Int))=Bm/\decide (0<(C.length:Int))=Bm):=by
         rcases H with h|⟨Y,c⟩
         ·left;simp[h]
         ·right;simp[Y,c]
        cases q7:Y3 (E,K,ys,C,L)
        all_goals
         rcases M with M|⟨M,AE,q5c,q5d⟩
         all_goals
          clear H;cases hph:(E !=1)
          all_goals
           first
            |(exfalso;rw[hph]at M;simp at M;done)
            |skip
           go_wp2_with(first|(go_at_call 88;refine(Js _ _ _ _).mono ?_;rintro e w' ⟨rfl,rfl⟩;first|rw[q0]|rw[q1])|(go_at_call 89;refine(Q4s _ _ _ _ W.o X.o).mono ?_;rintro e w' ⟨rfl,rfl⟩;rw[q2])|(go_at_call 90;refine(Qlz _ _ _ _ HA.o).mono ?_;rintro e w' ⟨rfl,rfl⟩;rw[q7]))
           all_goals
            go_roundw;case rel=>exact⟨j+1,by omega,by go_num,(by rw[AO.o,HX.o,q7];first|rfl|(simp;done)),λq t BB=>(by
             by_cases AQ:q=j
             ·subst AQ;rw[HX.o];exact z.o
             ·exact HK.o q t (by omega)),trivial⟩
            case measure=>simp[Bv];omega
  ·have AR:B.length<=j:=by omega
   have AS:D (B.all (Zw B.length)=Bn):=qh (Q6w λq t=>HK.o q t (by omega));have AT:D ((B.take j).countP Y3=B.countP Y3):=qh (by rw[Ao AR]);rw[AT.o];have AF:D (J2 P=((((B.countP Y3:Nat):Int)==S) && Q0g (cs,f,(g,k),xs) (Vi B) (Qz B))):=qh (by rw[AB.o,AS.o];rfl);have AC:=Dc (p:=Y3) (l:=B);generalize hcn:B.countP Y3=cnt at *
   clear hcn;cases q0:((cnt:Int)==S)with
   |false=>
    go_wp2_with fail
    go_quiet(fail)
    go_wp2;go_ret;exact⟨Q2 (by rw[AF.o,q0];rfl),Q6 (Ai _ _) _⟩
   |true=>
    have AU:D ((Vi (pW P)).length<=100000000):=qh (by have:=HZ.o;omega);have AG:D ((Qz (pW P)).length<=100000000):=qh (by have:=AK.o;omega);go_wp2_with fail
    go_region_held3(λw'=>w'.cell? ⟨b,o+6,N⟩=R (I Z S))
     ((refine Qpf (w:=w) ?_ c6;first|exact AH.o|exact A5.o|exact A6.o|go_grown))
     (first|((go_at_call 92;refine(Qoe w.drew b o P (A1.o.kept ⟨λa v h=>h⟩) AU.o).mono ?_;rintro e w1 ⟨vh,rfl,O,F⟩;obtain⟨AV,AW,rfl,-,-⟩:=O.form;have AX:=qh O;have A6:D (Bi w.heap.size w w1):=qh (Q0 (Ai w.heap.size w).drew F);have BC:=qh F;clear O F))|((go_at_call 93;refine(Qij w1 b o P (A1.o.kept (Am A6.o)) AG.o).mono ?_;rintro e w2 ⟨vr,rfl,O,F⟩;obtain⟨AY,AZ,rfl,-,-⟩:=O.form;have B0:=qh O;have A5:=qh (Q0 A6.o F);have B1:=qh F;clear O F))|((go_at_call 91;refine(Qo7 w2 b o (cs,f,(g,k),xs) (Vi (pW P)) (Qz (pW P)) AV AY AW AZ (AI.o.kept (Am A5.o)) ((AX.o.kept B1.o).rd rfl) (B0.o.rd rfl) (by have:=HZ.o;rw[A8.o]at this;exact this) AG.o).mono ?_;rintro e w3 ⟨rfl,F⟩;have AH:=qh (Q0 A5.o F);clear F)))
    go_wp2;go_ret;exact⟨Q2 (by rw[AF.o,q0,A9.o];rfl),AH.o⟩
end Go.Proofs.YthbpkpnioaniiaaGreat
