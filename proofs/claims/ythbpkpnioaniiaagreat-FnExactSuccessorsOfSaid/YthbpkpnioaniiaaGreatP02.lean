import Derived.Deep.RegionLaw
import Derived.Deep.DeepCutAuto
import Derived.Test.YthbpkpnioaniiaaGreatP01
set_option maxHeartbeats 40000000
set_option maxRecDepth 100000
set_option linter.all false
namespace Go.Proofs.YthbpkpnioaniiaaGreat
open Go.RowKit Go.Proofs.Tryz
open Go.Value renaming int->I,slice->A
open Go.IntKind renaming i64->Z
open Option renaming none->N,some->R
open And renaming intro->Cg
open Bool renaming false->Bm,false_and->Cn,true_and->Dl,true->Bn,and_eq_true->Bl,and_false->Dp
open Exists renaming intro->Dm
open Go renaming World->Bh,Addr->Cm,maxLen->Bp,Calls->Bq,Program->Eq,Value->Bk,TypeId->Cf,wpQuiet_nil->Ds,info_parts->Ch,heap_alloc_new->Bg,bodyPost_ret->Ca,TypeInfo->Gt
open Go.Obj renaming cells->Fe
open Go.RowKit renaming Below->Bi,intOf->Bv
open Go.RowKit.Below renaming grown->Dr,setCell->Eu
open Go.Value renaming ownBlock->Di,agg->Cz
open Go.Value.slice renaming injEq->Cp
open List renaming range->Bz,mem_range->Cy,all_eq_false->Fb,mem_map->Eh,mem_flatMap->Dk,setIfInBounds_toArray->Ci,set_cons_zero->Cs,set_cons_succ->Cw,length->Bx,nil_append->Bt,flatten_cons->Hm,append_nil->Co,not_mem_nil->Ed,length_take->Cj,countP_le_length->Dc
open Nat renaming reduceAdd->Bj,not_lt_zero->Da,mul_one->Cb,zero_add->Cd
theorem Q1o{n:Nat}(h:n<=9223372036854775807):IntKind.i64.wrap ((n:Int)-1)=(n:Int)-1:=by
 simp only[IntKind.wrap_i64];omega
theorem Qff(w:Bh)(p:Option Cm)(c:Nat)(n:List Qb)(a s:Int)(h:Rd (.slice Q3) w [A p n.length c] n)(K:n.length<=Bp)(F:Qqm a)(G:Qqm s):
  Bq prog 132 #[A p n.length c,.agg #[I Z a,I Z s]] w λe w'=>e=.returned (.bool (Q0l n (a,s)))/\Bi w.heap.size w w':=by
 unfold Bp at K;have H:=qh h;clear h;have F:=F.bd;have G:=G.bd;cases q0:Qqz a 0 ((n.length:Int)-1)with
 |false=>
  have B:D (Q0l n (a,s)=Bm):=qh (by simp only[Q0l,q0,Cn]);go_enter func132,ntmps132;go_wp2_with fail
  go_quiet((go_at_call 88;first|exact Yi (Qqc (Js _ _ _ _)) (Qr7 q0)|exact Yh (Qqc (Js _ _ _ _)) (Qr7 q0)))
  go_wp2;go_ret;exact⟨Q2 B.o.symm,Q6 (by go_grown) _⟩
 |true=>
  have L:=Ql.1 q0;have J:a.toNat<n.length:=by omega
  obtain⟨b,f,rfl,C⟩:=Rd.elem H.o a.toNat J;generalize hx:n[a.toNat]=x at C;obtain⟨k,l,v,d,ws⟩:=x;obtain⟨g,i,j,m,⟨M,O,P,S,E⟩,⟨o,q,r⟩,⟨T,U,V⟩,⟨w1,w2,W⟩⟩:=C.agent;unfold Bp at w2;have X:=qh hx;simp only[Ty.sz,Bj]at E;have Y:=World.new_ne w _ E;clear V W C hx H M O P S T U;have B:D (Q0l n (a,s)=Qqz s 0 ((ws.length:Int)-1)):=qh (by simp only[Q0l,q0,Dl,Q7,Qx J,X.o,aW]);have t:(0:Int)<=a:=L.1;have u:a<n.length:=by omega
  have y:=Q1o (n:=n.length) (by omega);have z:=Q1o (n:=ws.length) (by omega);go_enter func132,ntmps132;go_wp2_with fail
  have A0:=Ne.symm Y;have A1:=Ac w _ E;cases q1:Qqz s 0 ((ws.length:Int)-1)
  all_goals
   go_quiet((go_at_call 88;first|exact Yi (Qqc (Js _ _ _ _)) (Qr7 q0)|exact Yi (Qqc (Js _ _ _ _)) (Qr7 q1)|exact Yh (Qqc (Js _ _ _ _)) (Qr7 q0)|exact Yh (Qqc (Js _ _ _ _)) (Qr7 q1)))
   go_wp2;go_ret;exact⟨Q2 (by rw[B.o,q1]),Q6 (by go_grown) _⟩
theorem Q13{n:Nat}{f:Nat->Bool}(h:∀i,i<n->f i=Bn):(Bz n).all f=Bn:=by
 rw[Bf];intro i B;exact h i (Cy.1 B)
theorem Yo{n:Nat}{f:Nat->Bool}(i:Nat)(B:i<n)(h:f i=Bm):(Bz n).all f=Bm:=by
 rw[Fb];exact⟨i,Cy.2 B,by rw[h];simp⟩
theorem Qew(w:Bh)(p:Option Cm)(c:Nat)(n:List Qb)(h:Rd (.slice Q3) w [A p n.length c] n)(S:n.length<=Bp):
  Bq prog 131 #[A p n.length c] w λe w'=>e=.returned (.bool (Jm n))/\Q0m w w':=by
 unfold Bp at S;have H:=qh h;clear h;cases q0:Qqz n.length 1 600 with
 |false=>
  have F:D (Jm n=Bm):=qh (by simp only[Jm,q0,Cn]);go_enter func131,ntmps131;go_wp2_with(go_at_call 88;refine(Js _ _ _ _).mono ?_;rintro e w' ⟨rfl,rfl⟩;rw[q0])
  go_ret;exact⟨Q2 F.o.symm,Q0m.refl _⟩
 |true=>
  have F:D (Jm n=(Bz n.length).all λ(i:Nat)=>Yc (Qn n i) && ((aK (Qn n i)==1)==((i:Int)==0))):=qh (by simp only[Jm,q0,Dl]);go_enter func131,ntmps131;go_wp2_with(go_at_call 88;refine(Js _ _ _ _).mono ?_;rintro e w' ⟨rfl,rfl⟩;rw[q0])
  clear q0;go_loopw [3] (λi wr=>∃j:Nat,j<=n.length/\i=I Z j/\D (∀q,q<j->(Yc (Qn n q) && ((aK (Qn n q)==1)==((q:Int)==0)))=Bn)/\D (Q0m w wr)) (λi _=>n.length-(Bv i).toNat);case atStart=>exact⟨0,Ak _,rfl,λq h=>absurd h (Da _),Q0m.refl _⟩
  case round=>
   obtain⟨j,a,rfl,P,E⟩:=hrel;by_cases J:j<n.length
   ·obtain⟨b,f,rfl,K⟩:=Rd.elem H.o j J
    generalize hx:n[j]=x at K;obtain⟨k,l,v,d,ws⟩:=x;have L:D (Qn n j=(k,l,v,d,ws)):=qh (by rw[Qx J,hx]);clear hx;obtain⟨g,m,o,r,⟨G,T,U,V,W⟩,_,_,_⟩:=(K.drew E.o).agent;have M:=qh (K.drew E.o);simp only[Ty.sz,Bj]at G;clear K T U V W;cases hag:Yc (k,l,v,d,ws)with
    |false=>
     have C:=qh hag;go_wp2_with(go_at_call 182;refine(Q8q _ _ _ _ _ _ _ _ M.o).mono ?_;rintro e w' ⟨rfl,B⟩;rw[C.o])
     go_ret;exact⟨Q2 (by rw[F.o];exact(Yo j J (by rw[L.o,C.o];rfl)).symm),E.o.trans B⟩
    |true=>
     have C:=qh hag;cases hkk:((k==1)==((j:Int)==0))with
     |false=>
      have O:=qh hkk;go_wp2_with(go_at_call 182;refine(Q8q _ _ _ _ _ _ _ _ M.o).mono ?_;rintro e w' ⟨rfl,B⟩;rw[C.o];have G:=(Am B.below).cell _ _ G)
      go_ret;exact⟨Q2 (by rw[F.o];exact(Yo j J (by rw[L.o,C.o];simp only[aK,O.o];rfl)).symm),E.o.trans B⟩
     |true=>
      have O:=qh hkk;go_wp2_with(go_at_call 182;refine(Q8q _ _ _ _ _ _ _ _ M.o).mono ?_;rintro e w' ⟨rfl,B⟩;rw[C.o];have G:=(Am B.below).cell _ _ G;have X:=qh B;clear B)
      go_roundw;case rel=>exact⟨j+1,by omega,by go_num,λq s=>(by
       by_cases Y:q=j
       ·subst Y;rw[L.o,C.o];simp only[aK,O.o];rfl
       ·exact P.o q (by omega)),E.o.trans X.o⟩
      case measure=>simp[Bv];omega
   ·have t:n.length<=j:=by omega
    go_wp2;go_ret;exact⟨Q2 (by rw[F.o];exact(Q13 λi u=>P.o i (by omega)).symm),E.o⟩
theorem Z0{P:Eq}{B:Nat}{Q:Exit->Act->Bh->Prop}{a:Act}{w:Bh}{l:List Oper}(C:Bh->Prop)(E:P.follows .mixedOrders=Bn)(F:Region.lexB .any l.toArray=Bn)(G:C {w with drawn:=w.drawn+1})
  (h:wpQuiet P l.toArray C (λH=>∀w',C w'->Q .normal H w') l a):(Code.region B l.toArray Bn).wp P Q a w:=
 wp_region_quiet E F G (by simpa using h)
theorem Qfy{n:List Qb}{i k:Nat}(B:k<(aW (Qn n i)).length):((i:Int),(k:Int))∈Q0i n i:=
 Eh.2 ⟨k,Cy.2 B,rfl⟩
theorem Q3i{n:List Qb}{f:Wd->Bool}(i k:Nat)(B:i<n.length)(C:k<(aW (Qn n i)).length)(h:f ((i:Int),(k:Int))=Bm):(Qs n).all f=Bm:=by
 rw[Fb];exact⟨_,Dk.2 ⟨i,Cy.2 B,Qfy C⟩,by rw[h];simp⟩
theorem Qcj{n:List Qb}{f:Wd->Bool}(h:∀i k:Nat,i<n.length->k<(aW (Qn n i)).length->f ((i:Int),(k:Int))=Bn):(Qs n).all f=Bn:=by
 rw[Bf];intro p B;obtain⟨i,C,B⟩:=Dk.1 B;obtain⟨k,E,rfl⟩:=Eh.1 B;exact h i k (Cy.1 C) (Cy.1 E)
theorem Qpj(w:Bh)(a b c d:Bk)(T:Cf):
  ((w.alloc (.cells #[a,b] T)).alloc (.cells #[c,d] T)).cell? ⟨w.heap.size,0,N⟩=R a/\((w.alloc (.cells #[a,b] T)).alloc (.cells #[c,d] T)).cell? ⟨w.heap.size,1,N⟩=R b/\
  ((w.alloc (.cells #[a,b] T)).alloc (.cells #[c,d] T)).cell? ⟨w.heap.size+1,0,N⟩=R c/\((w.alloc (.cells #[a,b] T)).alloc (.cells #[c,d] T)).cell? ⟨w.heap.size+1,1,N⟩=R d/\Bi w.heap.size w ((w.alloc (.cells #[a,b] T)).alloc (.cells #[c,d] T)):=by
 refine⟨?_, ?_, ?_, ?_,by go_grown⟩<;>simp
theorem Qn1{n:List Qb}{i k:Nat}{B C:Int}(h:Qt n ((i:Int),(k:Int))=(B,C))(q:(B==(i:Int) && C==(k:Int))=Bn):Q0c n ((i:Int),(k:Int))=Bm:=by
 simp only[Bl,beq_iff_eq]at q;have:(Qt n ((i:Int),(k:Int))==((i:Int),(k:Int)))=Bn:=by rw[h,q.1,q.2];simp
 simp only[Q0c,this,Bool.not_true,Cn]
theorem Qm6{n:List Qb}{i k:Nat}{B C:Int}(h:Qt n ((i:Int),(k:Int))=(B,C))(q:(B==(i:Int) && C==(k:Int))=Bm):Q0c n ((i:Int),(k:Int))=(Q0l n (B,C) && Qt n (B,C)==((i:Int),(k:Int))):=by
 have:(Qt n ((i:Int),(k:Int))==((i:Int),(k:Int)))=Bm:=by rw[h,beq_eq_false_iff_ne];intro e;have E:=congrArg Prod.fst e;have F:=congrArg Prod.snd e;simp only at E F;rw[E,F]at q;simp at q
 simp only[Q0c,this,Bool.not_false,Dl];rw[h]
theorem Qp2(w:Bh)(b o:Nat)(n:List Qb)(h:At Je w b o n):
  Bq prog 87 #[.pointer (R ⟨b,o,N⟩)] w λe w'=>e=.returned (.bool (Ys n))/\Bi w.heap.size w w':=by
 obtain⟨p,c,L,hc,hm,hn⟩:=h.net;have G:=qh hn;have M:=qh hm;clear hn h;unfold Bp at hm;cases q0:Jm n with
 |false=>
  have J:D (Ys n=Bm):=qh (by simp only[Ys,q0,Cn]);go_enter func87,ntmps87;go_wp2_with(go_at_call 131;refine(Qew _ _ _ _ G.o M.o).mono ?_;rintro e w' ⟨rfl,V⟩;rw[q0])
  go_ret;exact⟨Q2 J.o.symm,V.below⟩
 |true=>
  have J:D (Ys n=(Qs n).all (Q0c n)):=qh (by simp only[Ys,q0,Dl]);go_enter func87,ntmps87;go_wp2_with(go_at_call 131;refine(Qew _ _ _ _ G.o M.o).mono ?_;rintro e w' ⟨rfl,V⟩;rw[q0];have HD:=qh V;clear V)
  clear q0;go_loopw [3] (λi wr=>∃j:Nat,j<=n.length/\i=I Z j/\D (∀i k:Nat,i<j->k<(aW (Qn n i)).length->Q0c n ((i:Int),(k:Int))=Bn)/\D (Bi w.heap.size w wr)) (λi _=>n.length-(Bv i).toNat);case atStart=>exact⟨0,Ak _,rfl,λi k h=>absurd h (Da _),HD.o.below⟩
  case round=>
   obtain⟨j,hj,rfl,HI,W⟩:=hrel;clear HD;rename Bh=>wo
   have AA:=(Am W.o).cell _ _ L;by_cases O:j<n.length;rotate_left
   ·have AO:n.length<=j:=by omega
    clear L;go_wp2;go_ret;exact⟨Q2 (by rw[J.o];exact(Qcj λi k hi hk=>HI.o i k (by omega) hk).symm),W.o⟩
   obtain⟨b1,o1,rfl,X⟩:=Rd.elem G.o j O;generalize hx:n[j]=x at X;obtain⟨k,l,v,d,ws⟩:=x;have P:D (Qn n j=(k,l,v,d,ws)):=qh (by rw[Qx O,hx]);clear hx;have HA:=qh X;obtain⟨pd,cd,pw,cw,⟨-,-,-,-,Y⟩,-,-,⟨w1,w2,-⟩⟩:=(X.kept (Am W.o)).agent;simp only[Ty.sz,Bj]at Y;unfold Bp at w2;clear X;go_wp2_with fail
   go_loopw [5] (λi wq=>∃k:Nat,k<=ws.length/\i=I Z k/\D (∀q:Nat,q<k->Q0c n ((j:Int),(q:Int))=Bn)/\D (Bi wo.heap.size wo wq)) (λi _=>ws.length-(Bv i).toNat);case atStart=>exact⟨0,Ak _,rfl,λq h=>absurd h (Da _),Ai _ _⟩
   case round=>
    obtain⟨C,hk,rfl,HK,y⟩:=hrel;have z:=(Am y.o).cell _ _ Y;have K:D (Bi w.heap.size w wr):=Q0 W.o y.o;by_cases S:C<ws.length;rotate_left
    ·have AO:ws.length<=C:=by omega
     clear Y L AA;go_wp2_with fail
     go_roundw;case rel=>exact⟨j+1,by omega,by go_num,λi q hi H=>(by
      by_cases A0:i=j
      ·subst A0
       refine HK.o q ?_;rw[P.o]at H;simp only[aW]at H;omega
      ·exact HI.o i q (by omega) H),K.o⟩
     case measure=>simp[Bv];omega
    have A1:=(Am K.o).cell _ _ L;have AB:=HA.o.kept (Am K.o);obtain⟨_,_,_,_,⟨-,-,-,-,a⟩,-,-,⟨-,-,hw⟩⟩:=AB.agent;simp only[Ty.sz,Bj]at a;rw[z]at a;simp only[Option.some.injEq,Cp]at a;obtain⟨rfl,_,rfl⟩:=a;obtain⟨bw,ow,rfl,hE⟩:=Rd.elem hw C S;generalize hxk:ws[C]=xk at hE;obtain⟨E,F⟩:=xk;obtain⟨f0,f1,f,g⟩:=hE.word;simp only[Ty.sz,Bj]at f0 f1;have AC:D (Qt n ((j:Int),(C:Int))=(E,F)):=qh (by simp only[Qt,Q7,Int.toNat_natCast,P.o,aW];rw[Ab,Ad S,hxk];rfl);clear hE hxk hw AB Y AA L;have ij:Qqm (j:Int):=by unfold Qqm;omega
    have ik:Qqm (C:Int):=by unfold Qqm;omega
    have H:=λw=>Qh7 f g ij ik w;have AP:=Ac wr _ z;have AQ:=Ac wr _ A1;have AR:=Ac wr _ f0;simp only at AP AQ AR;go_wp2_with fail
    obtain⟨m0,m1,p0,p1,A2⟩:=Qpj wr (I Z j) (I Z C) (I Z E) (I Z F) 185;have A3:=(Am A2).cell _ _ A1;have m:=qh A2;generalize (wr.alloc (Fe #[I Z j,I Z C] 185)).alloc (Fe #[I Z E,I Z F] 185)=W1 at *
    clear A2 A1 f0 f1 z;cases q1:(E==(j:Int) && F==(C:Int))with
    |true=>
     have r:=qh (Qn1 AC.o q1);rw[q1]at H;go_quiet(fail)
     go_wp2;go_ret;exact⟨Q2 (by rw[J.o];exact(Q3i j C O (by rw[P.o];exact S) r.o).symm),Q6 (Q0 K.o m.o) _⟩
    |false=>
     have r:=qh (Qm6 AC.o q1);rw[q1]at H;clear q1;have s:=qh (Am (Q0 K.o m.o));have AD:=qh (Q0 K.o m.o);cases q2:Q0l n (E,F)with
     |false=>
      have t:D (Q0c n ((j:Int),(C:Int))=Bm):=qh (by rw[r.o,q2];rfl);(refine Z0 (λw'=>Bi W1.heap.size W1 w') (by kernel_rfl) (by kernel_rfl) (Ai _ _).drew ?_;(repeat(first|go_big_quiet_skip|(go_big_quiet_want;apply Dm;refine⟨λw' B=> ?_, ?_⟩;(focus(have AE:=(Am B).cell _ _ m0;have AF:=(Am B).cell _ _ m1;have AG:=(Am B).cell _ _ p0;have AH:=(Am B).cell _ _ p1;have AI:=(Am B).cell _ _ A3;go_simp;first|done|with_reducible rfl|(exact(Qff _ _ _ _ _ _ (G.o.kept (s.o.trans (Am B))) M.o f g).mono λe w3 ⟨T,hb⟩=>⟨by rw[T,q2],Q0 B hb⟩)));simp only[Act.put,Ci,Cs,Cw];go_big_quiet_on)));refine Ds ?_;intro wz U)
      go_wp2;go_ret;exact⟨Q2 (by rw[J.o];exact(Q3i j C O (by rw[P.o];exact S) t.o).symm),Q0 AD.o U⟩
     |true=>
      have AJ:=q2;simp only[Q0l,Bl,Ql]at AJ;obtain⟨⟨g1,g2⟩,g3,g4⟩:=AJ;have g5:E<(n.length:Int):=by omega
      have A4:E.toNat<n.length:=by omega
      obtain⟨bb,oo,AK,A5⟩:=Rd.elem (G.o.kept s.o) E.toNat A4;simp only[Option.some.injEq,Addr.mk.injEq,and_true]at AK;obtain⟨rfl,rfl⟩:=AK;generalize hx2:n[E.toNat]=x2 at A5;obtain⟨k2,l2,v2,d2,u⟩:=x2;have A6:Q7 n E=(k2,l2,v2,d2,u):=by unfold Q7;rw[Qx A4,hx2]
      rw[A6]at g4;simp only[aW]at g4;have g6:F<(u.length:Int):=by omega
      have A7:F.toNat<u.length:=by omega
      obtain⟨_,_,AV,AW,⟨-,-,-,-,y4⟩,-,-,⟨-,-,AL⟩⟩:=A5.agent;simp only[Ty.sz,Bj]at y4;obtain⟨bz,oz,rfl,A8⟩:=Rd.elem AL F.toNat A7;generalize hy2:u[F.toNat]=y2 at A8;obtain⟨ea,es⟩:=y2;obtain⟨z0,z1,ie,js⟩:=A8.word;simp only[Ty.sz,Bj]at z0 z1;have AM:Qt n (E,F)=(ea,es):=by simp only[Qt,A6,aW];rw[Ab,Ad A7,hy2];rfl
      have t:D (Q0c n ((j:Int),(C:Int))=(ea==(j:Int) && es==(C:Int))):=qh (by rw[r.o,q2,AM];rfl);have AN:=λw=>Qha ie js ij ik w;clear AM hy2 A8 AL A6 hx2 A5 A4 A7;cases q3:(ea==(j:Int) && es==(C:Int))with
      |false=>
       rw[q3]at AN;have A9:=qh (t.o.trans q3);clear q3;(refine Z0 (λw'=>Bi W1.heap.size W1 w') (by kernel_rfl) (by kernel_rfl) (Ai _ _).drew ?_;(repeat(first|go_big_quiet_skip|(go_big_quiet_want;apply Dm;refine⟨λw' B=> ?_, ?_⟩;(focus(have AE:=(Am B).cell _ _ m0;have AF:=(Am B).cell _ _ m1;have AG:=(Am B).cell _ _ p0;have AH:=(Am B).cell _ _ p1;have AI:=(Am B).cell _ _ A3;have AS:=(Am B).cell _ _ y4;have AT:=(Am B).cell _ _ z0;have AU:=(Am B).cell _ _ z1;go_simp;first|done|with_reducible rfl|(exact(Qff _ _ _ _ _ _ (G.o.kept (s.o.trans (Am B))) M.o f g).mono λe w3 ⟨T,hb⟩=>⟨by rw[T,q2],Q0 B hb⟩)));simp only[Act.put,Ci,Cs,Cw];go_big_quiet_on)));refine Ds ?_;intro wz U)
       go_wp2;go_ret;exact⟨Q2 (by rw[J.o];exact(Q3i j C O (by rw[P.o];exact S) A9.o).symm),Q0 AD.o U⟩
      |true=>
       rw[q3]at AN;have A9:=qh (t.o.trans q3);clear q3;(refine Z0 (λw'=>Bi W1.heap.size W1 w') (by kernel_rfl) (by kernel_rfl) (Ai _ _).drew ?_;(repeat(first|go_big_quiet_skip|(go_big_quiet_want;apply Dm;refine⟨λw' B=> ?_, ?_⟩;(focus(have AE:=(Am B).cell _ _ m0;have AF:=(Am B).cell _ _ m1;have AG:=(Am B).cell _ _ p0;have AH:=(Am B).cell _ _ p1;have AI:=(Am B).cell _ _ A3;have AS:=(Am B).cell _ _ y4;have AT:=(Am B).cell _ _ z0;have AU:=(Am B).cell _ _ z1;go_simp;first|done|with_reducible rfl|(exact(Qff _ _ _ _ _ _ (G.o.kept (s.o.trans (Am B))) M.o f g).mono λe w3 ⟨T,hb⟩=>⟨by rw[T,q2],Q0 B hb⟩)));simp only[Act.put,Ci,Cs,Cw];go_big_quiet_on)));refine Ds ?_;intro wz U)
       go_wp2;go_roundw;case rel=>exact⟨C+1,by omega,by go_num,λq H=>(by
        by_cases A0:q=C
        ·subst A0;exact A9.o
        ·exact HK.o q (by omega)),Q0 (Q0 y.o m.o) U⟩
       case measure=>simp[Bv];omega
theorem Qg1(w:Bh)(p:Option Cm)(c:Nat)(bk:List Qr2)(h:Rd (.slice Je) w [A p bk.length c] bk)(U:bk.length<=Bp):
  Bq prog 49 #[A p bk.length c] w λe w'=>e=.returned (.bool (Q0u bk))/\Bi w.heap.size w w':=by
 unfold Bp at U;have H:=qh h;clear h;by_cases E:(bk.length:Int)<=24
 ·have F:D (Q0u bk=bk.all Ys):=qh (by simp only[Q0u,E,decide_true,Dl])
  go_enter func49,ntmps49;go_wp2_with fail
  go_loopw [3] (λi wr=>∃j:Nat,j<=bk.length/\i=I Z j/\D (∀(q:Nat) (G:q<bk.length),q<j->Ys bk[q]=Bn)/\D (Bi w.heap.size w wr)) (λi _=>bk.length-(Bv i).toNat);case atStart=>exact⟨0,Ak _,rfl,λq _ h=>absurd h (Da _),Ai _ _⟩
  case round=>
   obtain⟨j,W,rfl,O,J⟩:=hrel;by_cases P:j<bk.length
   ·obtain⟨X,Y,rfl,K⟩:=Rd.elem (H.o.kept (Am J.o)) j P
    generalize L:bk[j]=x at K;have S:=qh L;clear L;simp only[Ty.sz,Cb]at K;have T:=qh K;clear K;cases hok:Ys x with
    |true=>
     have B:=qh hok;go_wp2_with(go_at_call 87;refine(Qp2 _ _ _ _ T.o).mono ?_;rintro e w' ⟨rfl,C⟩;rw[B.o];have M:=qh C;clear C)
     go_roundw;case rel=>exact⟨j+1,by omega,by go_num,λq G a=>(by
      by_cases V:q=j
      ·subst V;rw[S.o];exact B.o
      ·exact O.o q G (by omega)),Q0 J.o M.o⟩
     case measure=>simp[Bv];omega
    |false=>
     have B:=qh hok;go_wp2_with(go_at_call 87;refine(Qp2 _ _ _ _ T.o).mono ?_;rintro e w' ⟨rfl,C⟩;rw[B.o];have M:=qh C;clear C)
     go_ret;refine⟨Q2 ?_,Q0 J.o M.o⟩;rw[F.o];symm;rw[Fb];exact⟨bk[j],As P,by rw[S.o,B.o];simp⟩
   ·have E:bk.length<=j:=by omega
    go_wp2;go_ret;refine⟨Q2 ?_,J.o⟩;rw[F.o];symm;rw[Bf];intro x L;obtain⟨q,G,rfl⟩:=Av.1 L;exact O.o q G (by omega)
 ·have F:D (Q0u bk=Bm):=qh (by simp only[Q0u,E,decide_false,Cn])
  have b:decide (24<(bk.length:Int))=Bn:=by simp;omega
  clear E;go_enter func49,ntmps49;go_wp2_with fail
  go_ret;exact⟨Q2 F.o.symm,Ai _ _⟩
theorem Q4s(w:Bh)(p:Option Cm)(c:Nat)(xs:List Int)(h:Rd (.slice .int) w [A p xs.length c] xs)(L:xs.length<=Bp):
  Bq prog 89 #[A p xs.length c] w λe w'=>e=.returned (.bool (Q06 xs))/\w=w':=by
 unfold Bp at L;have H:=qh h;clear h;go_enter func89,ntmps89;go_wp2_with fail
 go_loopw [3] (λi wr=>∃j:Nat,j<=xs.length/\i=I Z j/\D (∀(q:Nat) (C:q<xs.length),q<j->Qqz xs[q] 0 1000000000=Bn)/\wr=w) (λi _=>xs.length-(Bv i).toNat);case atStart=>exact⟨0,Ak _,rfl,λq _ h=>absurd h (Da _),rfl⟩
 case round=>
  obtain⟨j,S,rfl,G,rfl⟩:=hrel;by_cases J:j<xs.length
  ·obtain⟨T,U,rfl,F⟩:=Rd.elem H.o j J
   generalize E:xs[j]=x at F;have K:=qh E;clear E;obtain⟨M,V⟩:=F.int;simp only[Ty.sz,Cb]at M;clear F;cases hdf:Qqz x 0 1000000000 with
   |true=>
    have B:=qh hdf;go_wp2_with(go_at_call 88;refine(Js _ _ _ _).mono ?_;rintro e w' ⟨rfl,rfl⟩;rw[B.o])
    go_roundw;case rel=>exact⟨j+1,by omega,by go_num,λq C W=>(by
     by_cases O:q=j
     ·subst O;rw[K.o];exact B.o
     ·exact G.o q C (by omega)),trivial⟩
    case measure=>simp[Bv];omega
   |false=>
    have B:=qh hdf;go_wp2_with(go_at_call 88;refine(Js _ _ _ _).mono ?_;rintro e w' ⟨rfl,rfl⟩;rw[B.o])
    go_ret;refine⟨Q2 ?_,rfl⟩;have:(xs.all λn=>Qqz n 0 1000000000)=Bm:=by rw[Fb];exact⟨xs[j],As J,by rw[K.o,B.o];simp⟩
    simp only[Q06,this,Dp]
  ·have X:xs.length<=j:=by omega
   have P:D ((xs.all λn=>Qqz n 0 1000000000)=Bn):=qh (by rw[Bf];intro x E;obtain⟨q,C,rfl⟩:=Av.1 E;exact G.o q C (by omega));go_wp2;go_ret;exact⟨Q2 (by simp only[Q06,P.o,Bool.and_true]),rfl⟩
theorem Qlz(w:Bh)(b o:Nat)(x:Qqb)(h:At Qc w b o x):
  Bq prog 90 #[.pointer (R ⟨b,o,N⟩)] w λe w'=>e=.returned (.bool (Y3 x))/\w=w':=by
 obtain⟨B,C,xs,E,cs⟩:=x;obtain⟨_,_,_,_,_,_,⟨F,-,-,-,-⟩,_,-,-,-⟩:=h.worker;clear h;go_enter func90,ntmps90;go_wp2;all_goals(go_ret;exact⟨Q2 (by simp_all[Y3,wP]),rfl⟩)
theorem Yl(w:Bh)(b o:Nat)(k l v:Int)(d:List Int)(ws:List Wd)(h:At Q3 w b o (k,l,v,d,ws)):
  Bq prog 136 #[.pointer (R ⟨b,o,N⟩)] w λe w'=>e=.returned (.bool (J5 k))/\w=w':=by
 obtain⟨_,_,_,_,⟨B,-,-,-,-⟩,_,-,-⟩:=h.agent;clear h;go_enter func136,ntmps136;go_wp2_with(go_at_call 88;refine(Js _ _ _ _).mono ?_;rintro e w' ⟨rfl,rfl⟩)
 go_ret;exact⟨rfl,rfl⟩
theorem Qkb(w:Bh)(a b:Bk)(T:Cf):
  (w.alloc (.cells #[a,b] T)).cell? ⟨w.heap.size,0,N⟩=R a/\(w.alloc (.cells #[a,b] T)).cell? ⟨w.heap.size,1,N⟩=R b/\Bi w.heap.size w (w.alloc (.cells #[a,b] T)):=by
 refine⟨?_, ?_,by go_grown⟩<;>simp
theorem Qkj(w:Bh)(b o:Nat)(m:Qqp)(t a:Int)(h:At Qo w b o m)(U:Qqm t)(V:Qqm a):
  Bq prog 135 #[.pointer (R ⟨b,o,N⟩),.agg #[I Z t,I Z a]] w λe w'=>e=.returned (.bool (Zh (mC m) (t,a)))/\Bi w.heap.size w w':=by
 obtain⟨cs,f,⟨rt,ra⟩,xs⟩:=m;obtain⟨pc,cc,_,_,⟨F,-,-,-,-⟩,-,⟨hc,p,W⟩,-⟩:=h.mem;unfold Bp at p;have q:=qh W;clear W h;have A2:=Q1o (n:=cs.length) (by omega);have U:=U.bd;have V:=V.bd;have r:=Ac w _ F;simp only at r;cases q0:Qqz a 0 ((cs.length:Int)-1)with
 |false=>
  have O:D (Zh cs (t,a)=Bm):=qh (by simp only[Zh,q0,Cn]);go_enter func135,ntmps135;go_wp2_with fail
  obtain⟨G,H,E⟩:=Qkb w (I Z t) (I Z a) 40;have J:=(Am E).cell _ _ F;have L:=qh E;generalize w.alloc (Fe #[I Z t,I Z a] 40)=W1 at *
  clear E F;(refine Z0 (λw'=>Bi W1.heap.size W1 w') (by kernel_rfl) (by kernel_rfl) (Ai _ _).drew ?_;(repeat(first|go_big_quiet_skip|(go_big_quiet_want;apply Dm;refine⟨λw' C=> ?_, ?_⟩;(focus(have s:=(Am C).cell _ _ G;have u:=(Am C).cell _ _ H;have y:=(Am C).cell _ _ J;go_simp;first|done|with_reducible rfl|(exact(Js _ _ _ _).mono λe z ⟨P,hb⟩=>⟨by rw[P,q0],hb▸C⟩)));simp only[Act.put,Ci,Cs,Cw];go_big_quiet_on)));refine Ds ?_;intro M B)
  go_wp2;go_ret;exact⟨Q2 O.o.symm,Q0 L.o B⟩
 |true=>
  have hi:=Ql.1 q0;have X:a.toNat<cs.length:=by omega
  obtain⟨b1,o1,rfl,K⟩:=Rd.elem q.o a.toNat X;generalize hx:cs[a.toNat]=x at K;obtain⟨k,l,v,d,ws⟩:=x;have HX:D (Q7 cs a=(k,l,v,d,ws)):=qh (by unfold Q7;rw[Qx X,hx]);simp only[Ty.sz,Bj]at K;have HA:=qh K;obtain⟨_,_,_,_,⟨S,-,-,-,-⟩,-,-,-⟩:=K.agent;clear K hx;have h1:(0:Int)<=a:=hi.1;have h2:a<cs.length:=by omega
  have O:D (Zh cs (t,a)=((t==1 && J5 k)||(t==2 && k==13))):=qh (by simp only[Zh,q0,Dl,HX.o,aK]);go_enter func135,ntmps135;go_wp2_with fail
  obtain⟨G,H,E⟩:=Qkb w (I Z t) (I Z a) 40;have J:=(Am E).cell _ _ F;have Y:=(Am E).cell _ _ S;have L:=qh E;generalize w.alloc (Fe #[I Z t,I Z a] 40)=W1 at *
  clear E F S;(refine Z0 (λw'=>Bi W1.heap.size W1 w') (by kernel_rfl) (by kernel_rfl) (Ai _ _).drew ?_;(repeat(first|go_big_quiet_skip|(go_big_quiet_want;apply Dm;refine⟨λw' C=> ?_, ?_⟩;(focus(have s:=(Am C).cell _ _ G;have u:=(Am C).cell _ _ H;have y:=(Am C).cell _ _ J;go_simp;first|done|with_reducible rfl|(exact(Js _ _ _ _).mono λe z ⟨P,hb⟩=>⟨by rw[P,q0],hb▸C⟩)));simp only[Act.put,Ci,Cs,Cw];go_big_quiet_on)));refine Ds ?_;intro M B)
  go_wp2;have c:=qh B;have T:=(Am B).cell _ _ G;have g:=(Am B).cell _ _ H;have i:=(Am B).cell _ _ J;have j:=(Am B).cell _ _ Y;clear B G H J Y;(refine Z0 (λw'=>Bi M.heap.size M w') (by kernel_rfl) (by kernel_rfl) (Ai _ _).drew ?_;(repeat(first|go_big_quiet_skip|(go_big_quiet_want;apply Dm;refine⟨λw' C=> ?_, ?_⟩;(focus(have A3:=(Am C).cell _ _ T;have A4:=(Am C).cell _ _ g;have A5:=(Am C).cell _ _ i;go_simp;first|done|with_reducible rfl|(fail)));simp only[Act.put,Ci,Cs,Cw];go_big_quiet_on)));refine Ds ?_;intro M B)
  have A0:=qh (HA.o.kept ((Am L.o).trans ((Am c.o).trans (Am B))));have A1:=qh B;have T:=(Am B).cell _ _ T;have S:=(Am B).cell _ _ j;clear B g i j;go_wp2_with(go_at_call 136;refine(Yl _ _ _ _ _ _ _ _ A0.o).mono ?_;rintro e w' ⟨rfl,rfl⟩)
  all_goals(go_ret;exact⟨Q2 (by show _=Zh cs (t,a);rw[O.o];simp_all),Q0 (Q0 L.o c.o) A1.o⟩)
theorem Q2o(w:Bh)(v:Bk)(xs:(Ty.slice Ty.int).den)(h:Rd (.slice .int) w [v] xs)(U:Bx xs<=100000000):
  Bq prog 54 #[v] w λe w'=>∃B,e=.returned B/\Qqe .int 2 w.heap.size w' B xs/\Bi w.heap.size w w':=by
 obtain⟨p,c,C,V,W,E⟩:=J6 h;obtain rfl:v=A p (Bx xs) c:=by simpa using C
 have H:=qh E;clear h C E;obtain⟨J,K,L,M,O⟩:=Ch Q3x;go_enter func54,ntmps54;go_wp2_with(at_builtin;refine Qi _ rfl (.tmp 3) (.tmp 4) 63 rfl (t:=.int) (v:=A (R ⟨w.heap.size,0,N⟩) 0 0) (xs:=[]) (ys:=xs) rfl (by decide) w.heap.size 2 J _ 8 underlying63 K L M O rfl (by decide) rfl rfl (Qqe.of_block (t:=.int) (xs:=[]) (Bg w (.cells #[] 2)) (Aj _) rfl rfl Q4e.nil (by simp[Bp])) (H.o.kept (Am (by go_grown))) (by simp;omega) (by simp) ?_;intro v1 w1 F G;have P:=qh G;have S:=qh F;clear F G)
 go_wp2;go_ret;exact⟨_,rfl,S.o.eqL (Bt _),Dr (show Bi w.heap.size w _ by go_grown) P.o (by simp) (by intro k T;simp[Di]at T;omega)⟩
theorem Q21.kept{w w':Bh}{b:Nat}{T:Cf}(h:Q21 w b T)(k:Bi w.heap.size w w'):Q21 w' b T:=by
 unfold Q21 at *
 rw[k.block b (Al.1 h).1];exact h
theorem Q3l(w:Bh)(b o:Nat)(k l v:Int)(d:List Int)(ws:List Wd)(h:At Q3 w b o (k,l,v,d,ws))(z:d.length<=100000000)(A0:ws.length<=100000000):
  Bq prog 99 #[.pointer (R ⟨b,o,N⟩)] w (Q24 Q3 w (k,l,v,d,ws)):=by
 obtain⟨pd,cd,pw,cw,⟨O,U,V,W,Y⟩,⟨M,i1,i2⟩,⟨d1,d2,hd⟩,⟨w1,w2,hw⟩⟩:=h.agent;have HD:=qh hd;have HW:=qh hw;have HI:=qh (Cg M (Cg i1 i2));have a:=qh (Cg z A0);clear hd hw h M i1 i2 z A0 d2 w2;obtain⟨M,A1,A2,A3,A4⟩:=Ch Vx;go_enter func99,ntmps99;go_wp2_with fail
 have E:D (Q21 (w.alloc (.cells #[I Z 0,I Z 0,I Z 0,A N 0 0,A N 0 0] 134)) w.heap.size 134):=qh (Bg w _);have AB:(w.alloc (.cells #[I Z 0,I Z 0,I Z 0,A N 0 0,A N 0 0] 134)).heap.size=w.heap.size+1:=Be _ _;have F:Bi w.heap.size w (w.alloc (.cells #[I Z 0,I Z 0,I Z 0,A N 0 0,A N 0 0] 134)):=by go_grown
 generalize w.alloc (Fe #[I Z 0,I Z 0,I Z 0,A N 0 0,A N 0 0] 134)=w0 at *
 have J:=qh F;have q0:=O;have O:=(Am F).cell _ _ O;have q1:=U;have U:=(Am F).cell _ _ U;have q2:=V;have V:=(Am F).cell _ _ V;have q3:=W;have W:=(Am F).cell _ _ W;have q4:=Y;have Y:=(Am F).cell _ _ Y;have A5:Rd (.slice .int) w0 [A pd d.length cd] d:=HD.o.kept (Am F);have A6:Rd (.slice Q4) w0 [A pw ws.length cw] ws:=HW.o.kept (Am F);have AC:=qh A5;have A7:=qh A6;clear F A5 A6 HD HW
 have A8:=qh (show Qqe Q4 40 w0.heap.size ((w0.alloc (.cells #[] 40)).drew) (A (R ⟨w.heap.size+1,0,N⟩) 0 0) []from
  Qqe.of_block (t:=Q4) (xs:=[]) (g:=w.heap.size+1) (by rw[<-AB];exact Bg w0 _) (by omega) rfl rfl Q4e.nil (by simp[Bp]))
 obtain⟨z0,z1,z2,z3,z4⟩:=E.o.cells;have AH:=λq=>E.o.blk.free q;have AD:=Ac w0 _ O;simp only at AD
 go_region_held3(λw'=>w'.cell? ⟨b,o,N⟩=R (I Z k)/\w'.cell? ⟨b,o+1,N⟩=R (I Z l)/\w'.cell? ⟨b,o+2,N⟩=R (I Z v)/\w'.cell? ⟨b,o+3,N⟩=R (A pd d.length cd)/\w'.cell? ⟨b,o+4,N⟩=R (A pw ws.length cw))
  ((refine Qar (w:=w) ?_ q0 q1 q2 q3 q4;first|exact Q0 J.o G.o|exact(((((Q0 J.o G.o).setCell (Aj _) _).setCell (Aj _) _).setCell (Aj _) _).setCell (Aj _) _).setCell (Aj _) _|exact Q0 J.o B.o|exact(Q0 J.o B.o).alloc (by have:=J.o.size;have:=B.o.size;omega) _|(have hq:=J.o;go_grown)))
  (first|((go_at_call 54;refine(Q2o _ _ _ (AC.o.kept (Am (w:=w0) (by go_grown))) a.o.1).mono ?_;rintro e w1 ⟨vd,rfl,f,j⟩;obtain⟨m,n,rfl,-,-⟩:=f.form;have P:=qh f;have B:D (Bi w0.heap.size w0 w1):=qh (Q0 (by go_grown) j);have AE:=qh j;have AI:=λq=>(E.o.kept B.o).blk.free q;obtain⟨r0,r1,r2,r3,r4⟩:=(E.o.kept B.o).cells;clear f j))|((refine Yp _ rfl (.tmp 20) (.tmp 24) 132 rfl (t:=Q4) (v:=A (R ⟨w1.heap.size,0,N⟩) 0 0) (xs:=[]) (ys:=ws) rfl (by decide) w0.heap.size 40 M _ 16 underlying132 A1 A2 A3 A4 rfl (by decide) rfl rfl (Qqe.of_block (t:=Q4) (xs:=[]) (Bg w1 (.cells #[] 40)) B.o.size rfl rfl Q4e.nil (by simp[Bp])) (A7.o.kept ((Am B.o).trans (Am (by go_grown)))) (by have:=a.o.2;simp;omega) (by have:=B.o.size;simp;omega) ?_;intro v2 w2 K H;obtain⟨S,T,rfl,-,-⟩:=K.form;have AF:=qh H;have r:=qh (K.eqL (Bt _));have s:=qh ((P.o.kept (show Bi w1.heap.size w1 _ by go_grown)).keptG H (λi C=>by intro e;simp[Di]at e;have:=(P.o.block i C).2;omega));have G:=qh (Dr (B.o.alloc B.o.size _) H (by have:=B.o.size;simp;omega) (λi C=>by simp[Di]at C;have:=B.o.size;omega));have AG:=λq=>(E.o.kept G.o).blk.free q;obtain⟨s0,s1,s2,s3,s4⟩:=(E.o.kept G.o).cells;clear K H))|((refine Yp _ rfl (.tmp 20) (.tmp 24) 132 rfl (t:=Q4) (v:=A (R ⟨w.heap.size+1,0,N⟩) 0 0) (xs:=[]) (ys:=ws) rfl (by decide) w0.heap.size 40 M _ 16 underlying132 A1 A2 A3 A4 rfl (by decide) rfl rfl (A8.o.kept AE.o) (A7.o.kept (Am B.o)) (by have:=a.o.2;simp;omega) B.o.size ?_;intro v2 w2 K H;obtain⟨S,T,rfl,-,-⟩:=K.form;have AF:=qh H;have r:=qh (K.eqL (Bt _));have s:=qh (P.o.keptG H (λi C=>by intro e;simp[Di]at e;have:=(P.o.block i C).1;simp at this;omega));have G:=qh (Dr B.o H B.o.size (λi C=>(A8.o.block i C).1));have AG:=λq=>(E.o.kept G.o).blk.free q;obtain⟨s0,s1,s2,s3,s4⟩:=(E.o.kept G.o).cells;clear K H)))
 all_goals
  have A9:D (Qqe .int 2 w0.heap.size w2 _ d):=qh (s.o.lo (by first|exact J.o.size|(simp;done)|(simp;omega)));have AA:D (Qqe Q4 40 w0.heap.size w2 _ ws):=qh (r.o.lo (Aj _));clear s r;go_wp2_with fail
  obtain⟨t0,t1,t2,t3,t4⟩:=Qq2 (E.o.kept G.o) (I Z k) (I Z l) (I Z v) (A m d.length n) (A S ws.length T);have u:=qh (Zq (X:=λc=>c=w.heap.size) (g:=w.heap.size) rfl [I Z k,I Z l,I Z v,A m d.length n,A S ws.length T] 0 w2);simp only[Qrf,Cd,Bj]at t0 t1 t2 t3 t4 u;refine Ca (v:=.agg #[I Z k,I Z l,I Z v,A m d.length n,A S ws.length T]) (by simp[results,results99,go_sem,t0,t1,t2,t3,t4]) rfl ?_;obtain⟨Fd,od,nd,x⟩:=(A9.o.frame u.o (λi C e=>by have:=(A9.o.block i C).1;omega)).ow rfl;obtain⟨Fw,ow,nw,y⟩:=(AA.o.frame u.o (λi C e=>by have:=(AA.o.block i C).1;omega)).ow rfl;obtain⟨h0,h1,h2⟩:=HI.o;refine⟨_,rfl,⟨Fd++Fw,Ow.mkAgent h0 h1 h2 od ow, ?_,λc L=> ?_⟩, ?_⟩
  ·rw[Ba]
   refine⟨nd,nw,λp hp q hq e=> ?_⟩;subst e;exact absurd ((x p hp).2.one (y p hq).2) (by decide)
  ·rcases At0.1 L with L|L
   ·exact⟨by have:=(x c L).1;omega,(x c L).2.lt⟩
   ·exact⟨by have:=(y c L).1;omega,(y c L).2.lt⟩
  ·exact(((((Q0 J.o G.o).setCell (Aj _) _).setCell (Aj _) _).setCell (Aj _) _).setCell (Aj _) _).setCell (Aj _) _
theorem Q5n{P:Eq}(w:Bh){e:Ty}(H S L:Cf)(i:Gt)(z:Bk)(M:Nat)(X:P.underlying H=R (.slice L))(O:P.info? L=R i)(Y:i.zero=R z)
  (a:i.size=e.sz) (d:i.bytes=M) (f:z.cells.size=e.sz) (k:M<=200) {B:Nat} {E:Bh} {v:Bk} {xs:List e.den} {y:e.den} {vs:List Bk} (g c:Nat)
  (l:Qqa (.slice e) B E [v] xs) (hB:B<=E.heap.size) (T:Bi E.heap.size E w) (m:Qqa e E.heap.size w vs y) (n:Qqw w g 0 vs) (o:∀u∈vs,u.oneCell'=Bn) (q:xs.length+1<=1000000000):
  ∃(p:Option Cm) (J:Nat) (w':Bh),(Builtin.append_ #[H,H] S #[v,A (R ⟨g,0,N⟩) 1 c]).run P w=.ok (A p (xs.length+1) J) w'/\Qqa (.slice e) B w' [A p (xs.length+1) J] (xs++ [y])/\Q1 (λc=>B<=c/\c<E.heap.size) w w':=by
 obtain⟨F,r,s,K⟩:=l;obtain⟨G,U,t,V⟩:=m;have x:=U.length
 obtain⟨p,J,w',F',h2,W,h4,h5,h6⟩:=Q3u (P:=P) w (e:=e) H S L i z M X O Y a d f k (xs:=xs) (ys:=[y]) (Gs:=[G]) (r.kept λb C=>T.block b (K b C).2) s ⟨g,0,N⟩ 1 c rfl vs (by rw[x];simp)
  (λj u hj=>by
   obtain⟨A0,he⟩:=List.getElem?_eq_some_iff.1 hj;have:=n j A0;have A1:(⟨g,0,N⟩:Cm).add j=⟨g,0+j,N⟩:=by unfold Addr.add;split<;>simp_all
   rw[A1,this,he]) o rfl
  (λi O=>by
   obtain rfl:i=0:=by simpa using O
   have:(vs.drop (0 * e.sz)).take e.sz=vs:=by rw[Nat.zero_mul,List.drop_zero,Ao (by omega)]
   rw[this];exact U) (by simpa using t)
  (λb C A2=>by simp only[Hm,List.flatten_nil,Co]at C;have:=(K b A2).2;have:=(V b C).1;omega) (by omega) q
 refine⟨p,J,w',h2,⟨F',W,h4,λb C=>⟨?_,W.lt b C⟩⟩,h6.mono λb C=>K b C⟩;have A3:=T.size;rcases h5 b C with h|h|h
 ·exact(K b h).1
 ·simp only[Hm,List.flatten_nil,Co]at h
  have:=(V b h).1;omega
 ·omega
theorem Q91{P:Eq}(w:Bh){G:Array Oper}{o:Oper}{a:Act}{K:Act->Bh->Prop}{Q:Exit->Act->Bh->Prop}{E:Prop}(H:o.guard=N)(s x:Operand)(C:Cf)
  (J:o.op=Op.call {callee:=Callee.builtin Builtin.append,args:=#[s,x],argTypes:=#[C,C]}) {e:Ty} (eT:Cf) (i:Gt) (z:Bk) (bytes:Nat) (ht:P.underlying C=R (.slice eT)) (hi:P.info? eT=R i) (hz:i.zero=R z)
  (hsize:i.size=e.sz) (hby:i.bytes=bytes) (hzs:z.cells.size=e.sz) (hb:bytes<=200) {B:Nat} (w0:Bh) {v:Bk} {xs:List e.den} {y:e.den} {vs:List Bk} (g c:Nat) (hv:a.eval s=v) (hu:a.eval x=A (R ⟨g,0,N⟩) 1 c)
  (hnew:Qqa (.slice e) B w0 [v] xs) (hB:B<=w0.heap.size) (hbel:Bi w0.heap.size w0 w) (hvs:Qqa e w0.heap.size w vs y) (hcells:Qqw w g 0 vs) (h1:∀u∈vs,u.oneCell'=Bn) (hlen:xs.length+1<=1000000000)
  (hK:∀p F w',Qqa (.slice e) B w' [A p (xs.length+1) F] (xs++ [y])->Q1 (λc=>B<=c/\c<w0.heap.size) w w'->K (a.put o.dst (A p (xs.length+1) F)) w'):if Region.wanted o (yielded G a.tmps)=Bn then Oper.wp P o a w K Q else E:=by
 have L:Region.wanted o (yielded G a.tmps)=Bn:=by simp[Region.wanted,H]
 rw[if_pos L];obtain⟨p,F,w',M,O,S⟩:=Q5n (P:=P) w C o.type eT i z bytes ht hi hz hsize hby hzs hb g c hnew hB hbel hvs hcells h1 hlen;unfold Oper.wp;simp[execOp,J,resolve,invoke,builtin,hv,hu,M,Result.andThen];exact hK p F w' O S
theorem Q0p{P:Eq}(w:Bh){F:Array Oper}{rest:List Oper}{o:Oper}{a:Act}{Q:Exit->Act->Bh->Prop}(G:o.guard=N)(s x:Operand)(C:Cf)
  (H:o.op=Op.call {callee:=Callee.builtin Builtin.append,args:=#[s,x],argTypes:=#[C,C]}) {e:Ty} (eT:Cf) (i:Gt) (z:Bk) (bytes:Nat) (ht:P.underlying C=R (.slice eT)) (hi:P.info? eT=R i) (hz:i.zero=R z)
  (hsize:i.size=e.sz) (hby:i.bytes=bytes) (hzs:z.cells.size=e.sz) (hb:bytes<=200) {B:Nat} (w0:Bh) {v:Bk} {xs:List e.den} {y:e.den} {vs:List Bk} (g c:Nat) (hv:a.eval s=v) (hu:a.eval x=A (R ⟨g,0,N⟩) 1 c)
  (hnew:Qqa (.slice e) B w0 [v] xs) (hB:B<=w0.heap.size) (hbel:Bi w0.heap.size w0 w) (hvs:Qqa e w0.heap.size w vs y) (hcells:Qqw w g 0 vs) (h1:∀u∈vs,u.oneCell'=Bn) (hlen:xs.length+1<=1000000000)
  (hK:∀p E w',Qqa (.slice e) B w' [A p (xs.length+1) E] (xs++ [y])->Q1 (λc=>B<=c/\c<w0.heap.size) w w'->wpList P F Q rest (a.put o.dst (A p (xs.length+1) E)) w'):wpList P F Q (o::rest) a w:=by
 refine wpList_plain G λK J=> ?_;obtain⟨p,E,w',L,M,O⟩:=Q5n (P:=P) w C o.type eT i z bytes ht hi hz hsize hby hzs hb g c hnew hB hbel hvs hcells h1 hlen;unfold Oper.wp;simp[execOp,H,resolve,invoke,builtin,hv,hu,L,Result.andThen];exact J _ _ (hK p E w' M O)
theorem Qqa.nil{e:Ty}(B:Nat)(w:Bh):Qqa (.slice e) B w [A N 0 0] []:=⟨[],Ow.nil w,by simp,by simp⟩
theorem Jn(w:Bh)(a b:Array Bk)(T U:Cf):
  ((w.alloc (.cells a T)).alloc (.cells b U)).heap[w.heap.size]?=R (.cells a T (0,0))/\((w.alloc (.cells a T)).alloc (.cells b U)).heap[w.heap.size+1]?=R (.cells b U (0,0)):=by
 refine⟨?_, ?_⟩
 ·rw[Az _ _ _ (by simp)];exact Bg w _
 ·have:=Bg (w.alloc (.cells a T)) (.cells b U)
  simpa using this
theorem Qe{w w':Bh}{b:Nat}{o:Obj}(h:w.heap[b]?=R o)(k:Bi w.heap.size w w'):w'.heap[b]?=R o:=by
 rw[k.block b (Al.1 h).1];exact h
theorem Q59{w w':Bh}{b:Nat}{o:Obj}{r:Option Nat}(k:w.grownBy w' r)(h:w.heap[b]?=R o)(B:r≠R b):w'.heap[b]?=R o:=by
 rw[k.block b (Al.1 h).1 (λe=>B e.symm)];exact h
theorem Q61:(prog.info? 134).map (λi=>(i.zero,i.size,i.bytes))=R (R (Cz #[I Z 0,I Z 0,I Z 0,A N 0 0,A N 0 0]),5,72):=by kernel_rfl
def Vs(v:Bk)(f t a:Int)(u:Bk):Obj:=.cells #[v,I Z f,I Z t,I Z a,u] 43 (0,0)
theorem Qds{w:Bh}{b:Nat}{v u:Bk}{f t a:Int}(h:w.heap[b]?=R (Vs v f t a u)):(w.cell? ⟨b,0,N⟩=R v/\w.cell? ⟨b,1,N⟩=R (I Z f)/\w.cell? ⟨b,2,N⟩=R (I Z t)/\w.cell? ⟨b,3,N⟩=R (I Z a)/\w.cell? ⟨b,4,N⟩=R u)/\∀q,w.frozen? ⟨b,q,N⟩=Bm:=
 ⟨⟨Q8 h rfl,Q8 h rfl,Q8 h rfl,Q8 h rfl,Q8 h rfl⟩,λq=>Q0f.free (T:=43) ⟨_,h⟩ q⟩
theorem Q9i{w:Bh}{b:Nat}{v u:Bk}{f t a:Int}(h:w.heap[b]?=R (Vs v f t a u))(B C:Bk)(E F G:Int):
  (Qrf w b 0 [B,I Z E,I Z F,I Z G,C]).heap[b]?=R (Vs B E F G C):=by
 unfold Vs at *
 have:=V3 [B,I Z E,I Z F,I Z G,C] 0 w _ h;rw[this];simp[Q1n]
theorem Q4z{w wc wr:Bh}{X B:Nat}(C:Bi w.heap.size w wc)(F:Q1 (λc=>c=X\/B<=c) wc wr)(hX:w.heap.size<=X)(J:w.heap.size<=B):Qcx w wr:=
 ⟨λa v E=>by have G:=Ac w a E;have H:=(Am C).cell a v E;rw[World.cell?_of_block (w:=wc) (F.block a.block (Ap G C.size) (by rintro(e|e)<;>omega))];exact H⟩
theorem Qcx.trans2{w w2:Bh}(h:Qcx w w2){X o:Nat}(v:Bk){wc:Bh}(E:Bi w.heap.size w wc)(hX:w.heap.size<=X):Qcx w (w2.setCell ⟨X,o,N⟩ v):=
 ⟨λa u B=>by have C:=Ac w a B;rw[World.cell?_setCell_other _ _ _ _ (by intro e;subst e;simp only at C;omega)];exact h.cell a u B⟩
theorem Qqa.agentShape{B:Nat}{w:Bh}{vs:List Bk}{k l v:Int}{d:List Int}{ws:List Wd}(h:Qqa Q3 B w vs (k,l,v,d,ws)):∃(C:Option Cm) (E:Nat) (F:Option Cm) (H:Nat),vs=[I Z k,I Z l,I Z v,A C d.length E,A F ws.length H]:=by
 obtain⟨G,J,_⟩:=h;obtain⟨C,E,F,H,_,_,rfl,_⟩:=J.agent;exact⟨C,E,F,H,rfl⟩
theorem Qqa.frame{t:Ty}{B:Nat}{w w':Bh}{vs:List Bk}{x:t.den}{X:Nat->Prop}(h:Qqa t B w vs x)(k:Q1 X w w')(hX:∀i,X i->i<B):Qqa t B w' vs x:=by
 obtain⟨F,o,n,r⟩:=h;exact⟨F,o.frame k λb C=>⟨(r b C).2,λe=>by have:=hX b e;have:=(r b C).1;omega⟩,n,λb C=>⟨(r b C).1,Ap (r b C).2 k.size⟩⟩
theorem Qpv{k l v:Int}{a c:Option Cm}{n m x y:Nat}:∀u∈ [I Z k,I Z l,I Z v,A a n x,A c m y],u.oneCell'=Bn:=by
 intro u B;simp only[List.mem_cons,Ed,or_false]at B;rcases B with rfl|rfl|rfl|rfl|rfl<;>rfl
theorem Qm5{w:Bh}{b:Nat}{v u:Bk}{f t a:Int}(h:w.heap[b]?=R (Vs v f t a u))(B:Bk):(w.setCell ⟨b,0,N⟩ B).heap[b]?=R (Vs B f t a u):=by
 unfold Vs at *
 rw[Z2 h];simp
theorem Qjk(w:Bh)(b o:Nat)(cs:List Qb)(f G H:Int)(xs:List Wd)(h:At Qo w b o (cs,f,(G,H),xs))(hz:Qqy Qo (cs,f,(G,H),xs)<=100000000):
  Bq prog 53 #[.pointer (R ⟨b,o,N⟩)] w (Q24 Qo w (cs,f,(G,H),xs)):=by
 obtain⟨pc,cc,px,cx,⟨c0,c1,c2,c3,c4⟩,⟨i1,i2,i3⟩,⟨C,hm,AM⟩,⟨BN,BO,AN⟩⟩:=h.mem;unfold Bp at hm;have HC:=qh AM;have HX:=qh AN;have HI:=qh (Cg i1 (Cg i2 i3));have A7:D (xs.length<=100000000):=qh (by have h1:Qqy Qo (cs,f,(G,H),xs)=Qqy (.slice Q3) cs+(0+((0+0)+Qqy (.slice Q4) xs)):=rfl;have h2:=Zd (e:=Q4) rfl xs;omega);have AW:D (∀(i:Nat) (E:i<cs.length),(aD cs[i]).length<=100000000/\(aW cs[i]).length<=100000000):=qh (λi E=>by
  have h1:Qqy Qo (cs,f,(G,H),xs)=Qqy (.slice Q3) cs+(0+((0+0)+Qqy (.slice Q4) xs)):=rfl;have h2:=Q0a Q3 cs;have h3:=Q4g (e:=Q3) E;have h4:=Q7v (e:=Q3) cs (i+1);generalize hx:cs[i]=x at *
  obtain⟨k,l,v,d,ws⟩:=x;have h5:Qqy Q3 (k,l,v,d,ws)=0+(0+(0+(Qqy (.slice .int) d+Qqy (.slice Q4) ws))):=rfl;have h6:=Zd (e:=.int) rfl d;have h7:=Zd (e:=Q4) rfl ws;simp only[aD,aW];omega)
 have AX:D (cs.length<=100000000):=qh (by have h1:Qqy Qo (cs,f,(G,H),xs)=Qqy (.slice Q3) cs+(0+((0+0)+Qqy (.slice Q4) xs)):=rfl;have h2:=Q0a Q3 cs;omega);clear AM AN h hz i1 i2 i3;obtain⟨i0,A8,A9,AA,AB⟩:=Ch J4;obtain⟨ia,AY,AZ,B0,B1⟩:=Ch Q61;go_enter func53,ntmps53;go_upto_region 1 with fail
 have A2:D ((w.alloc (.cells #[A N 0 0,I Z 0,I Z 0,I Z 0,A N 0 0] 43)).heap[w.heap.size]?=R (Vs (A N 0 0) 0 0 0 (A N 0 0))):=qh (Bg w _);have A0:(w.alloc (.cells #[A N 0 0,I Z 0,I Z 0,I Z 0,A N 0 0] 43)).heap.size=w.heap.size+1:=Be _ _;have u:Bi w.heap.size w (w.alloc (.cells #[A N 0 0,I Z 0,I Z 0,I Z 0,A N 0 0] 43)):=by go_grown
 generalize w.alloc (Fe #[A N 0 0,I Z 0,I Z 0,I Z 0,A N 0 0] 43)=w0 at *
 have V:=qh u;have A3:=qh (HX.o.kept (Am u));have k1:=(Am u).cell _ _ c1;have k2:=(Am u).cell _ _ c2;have k3:=(Am u).cell _ _ c3;have k4:=(Am u).cell _ _ c4;have AO:=Ac w0 _ k1;simp only at AO;clear u
 have AC:=qh (show Qqe Q4 117 w0.heap.size ((w0.alloc (.cells #[] 117)).drew) (A (R ⟨w.heap.size+1,0,N⟩) 0 0) []from
  Qqe.of_block (t:=Q4) (xs:=[]) (g:=w.heap.size+1) (by rw[<-A0];exact Bg w0 _) (by omega) rfl rfl Q4e.nil (by simp[Bp]))
 have AD:D (∀c:Array Bk,Qqe Q4 117 w0.heap.size (((w0.alloc (.cells #[] 117)).alloc (.cells c 43)).drew) (A (R ⟨w.heap.size+1,0,N⟩) 0 0) []):=qh (λc=>Qqe.of_block (t:=Q4) (xs:=[]) (g:=w.heap.size+1) (by rw[<-A0];exact(Jn w0 _ _ _ _).1) (by omega) rfl rfl Q4e.nil (by simp[Bp]));have AE:D (∀c:Array Bk,Qqe Q4 117 w0.heap.size (((w0.alloc (.cells c 43)).alloc (.cells #[] 117)).drew) (A (R ⟨w.heap.size+1+1,0,N⟩) 0 0) []):=qh (λc=>Qqe.of_block (t:=Q4) (xs:=[]) (g:=w.heap.size+1+1) (by rw[<-A0];exact(Jn w0 _ _ _ _).2) (by omega) rfl rfl Q4e.nil (by simp[Bp]))
 go_cut [3] (λx wx=>∃(X:Nat) (p:Option Cm) (M:Nat),x=.pointer (R ⟨X,0,N⟩)/\w.heap.size+1<=X/\D (wx.heap[X]?=R (Vs (A N 0 0) f G H (A p xs.length M)))/\D (wx.heap[w.heap.size]?=R (Vs (A N 0 0) 0 0 0 (A N 0 0)))/\
  D (Qqe Q4 117 (w.heap.size+1) wx (A p xs.length M) xs)/\D (Bi w.heap.size w wx))
 case first=>
  go_region_held3(λw'=>w'.cell? ⟨b,o+1,N⟩=R (I Z f)/\w'.cell? ⟨b,o+2,N⟩=R (I Z G)/\w'.cell? ⟨b,o+3,N⟩=R (I Z H)/\w'.cell? ⟨b,o+4,N⟩=R (A px xs.length cx))
   ((refine Q6z (w:=w) ?_ c1 c2 c3 c4;first|with_reducible exact Q0 V.o J.o|with_reducible exact(Q0 V.o J.o).alloc (Au V.o.size J.o.size) _|(with_reducible refine Eu (p:=⟨_,4,N⟩) (Eu (p:=⟨_,3,N⟩) (Eu (p:=⟨_,2,N⟩) (Eu (p:=⟨_,1,N⟩) (Eu (p:=⟨_,0,N⟩) (Q0 V.o J.o) ?_ _) ?_ _) ?_ _) ?_ _) ?_ _<;>(simp only;omega))|(have hq:=V.o;go_grown)))
   (first|((refine Yp _ rfl (.tmp 13) (.tmp 17) 41 rfl (t:=Q4) (v:=A (R ⟨w.heap.size+1,0,N⟩) 0 0) (xs:=[]) (ys:=xs) rfl (by decide) w0.heap.size 117 i0 _ 16 underlying41 A8 A9 AA AB rfl (by decide) rfl rfl AC.o (A3.o.kept (Am (by go_grown))) (by have:=A7.o;simp;omega) (by simp) ?_;intro v2 w2 O U;obtain⟨P,W,rfl,-,-⟩:=O.form;have Y:=qh (O.eqL (Bt _));have J:=qh (Dr (show Bi w0.heap.size w0 _ by go_grown) U (by simp) (λi E=>(AC.o.block i E).1));clear O U))|((refine Yp _ rfl (.tmp 13) (.tmp 17) 41 rfl (t:=Q4) (v:=A (R ⟨w.heap.size+1,0,N⟩) 0 0) (xs:=[]) (ys:=xs) rfl (by decide) w0.heap.size 117 i0 _ 16 underlying41 A8 A9 AA AB rfl (by decide) rfl rfl (AD.o _) (A3.o.kept (Am (by go_grown))) (by have:=A7.o;simp;omega) (by simp<;>omega) ?_;intro v2 w2 O U;obtain⟨P,W,rfl,-,-⟩:=O.form;have Y:=qh (O.eqL (Bt _));have J:=qh (Dr (show Bi w0.heap.size w0 _ by go_grown) U (by simp<;>omega) (λi E=>((AD.o #[]).block i E).1));have AF:D (w2.heap[w.heap.size+1+1]?=R (Vs (A N 0 0) 0 0 0 (A N 0 0))):=qh ((by have hg:=Q59 (o:=Vs (A N 0 0) 0 0 0 (A N 0 0)) U (Jn w0 _ _ _ _).2 (by simp[Di]<;>omega);rw[A0]at hg;exact hg));obtain⟨⟨z0,z1,z2,z3,z4⟩,AP⟩:=Qds AF.o;clear O U))|((refine Yp _ rfl (.tmp 13) (.tmp 17) 41 rfl (t:=Q4) (v:=A (R ⟨w.heap.size+1+1,0,N⟩) 0 0) (xs:=[]) (ys:=xs) rfl (by decide) w0.heap.size 117 i0 _ 16 underlying41 A8 A9 AA AB rfl (by decide) rfl rfl (AE.o _) (A3.o.kept (Am (by go_grown))) (by have:=A7.o;simp;omega) (by simp<;>omega) ?_;intro v2 w2 O U;obtain⟨P,W,rfl,-,-⟩:=O.form;have Y:=qh (O.eqL (Bt _));have J:=qh (Dr (show Bi w0.heap.size w0 _ by go_grown) U (by simp<;>omega) (λi E=>((AE.o #[]).block i E).1));have AG:D (w2.heap[w.heap.size+1]?=R (Vs (A N 0 0) 0 0 0 (A N 0 0))):=qh ((by have hg:=Q59 (o:=Vs (A N 0 0) 0 0 0 (A N 0 0)) U (Jn w0 _ _ _ _).1 (by simp[Di]<;>omega);rw[A0]at hg;exact hg));obtain⟨⟨z0,z1,z2,z3,z4⟩,AP⟩:=Qds AG.o;clear O U)))
  all_goals(go_wp2_with fail;go_meet)
  ·have m:=Qe A2.o J.o
   have A4:=J.o.size;exact⟨w2.heap.size,P,W,rfl,by omega,(show _=R (Vs _ _ _ _ _)from Bg w2 _),(by rw[Az _ _ _ (by omega)];exact m),(show Qqe _ _ _ _ _ _ from(Y.o.lo (by omega)).kept (by go_grown)),(show Bi w.heap.size w _ from(Q0 V.o J.o).alloc (by omega) _)⟩
  ·have K:=Zq (X:=λc=>c=(w.heap.size+1+1)) (g:=(w.heap.size+1+1)) rfl [A N 0 0,I Z f,I Z G,I Z H,A P xs.length W] 0 w2
   have r:=Q9i AF.o (A N 0 0) (A P xs.length W) f G H;simp only[Qrf,Cd,Bj]at K r;have m:=Qe A2.o J.o;have A4:=J.o.size;exact⟨(w.heap.size+1+1),P,W,rfl,by omega,r,(by rw[K.block _ (by omega) (by omega)];exact m),(show Qqe _ _ _ _ _ _ from((Y.o.lo (by omega)).frame K (λi E e=>Y.o.ne (b:=(w.heap.size+1+1)) (T:=43) ⟨_,AF.o⟩ (by decide) (by rw[E,e])))),(show Bi w.heap.size w _ from(((((Q0 V.o J.o).setCell (by simp only;omega) _).setCell (by simp only;omega) _).setCell (by simp only;omega) _).setCell (by simp only;omega) _).setCell (by simp only;omega) _)⟩
  ·have K:=Zq (X:=λc=>c=(w.heap.size+1)) (g:=(w.heap.size+1)) rfl [A N 0 0,I Z f,I Z G,I Z H,A P xs.length W] 0 w2
   have r:=Q9i AG.o (A N 0 0) (A P xs.length W) f G H;simp only[Qrf,Cd,Bj]at K r;have m:=Qe A2.o J.o;have A4:=J.o.size;exact⟨(w.heap.size+1),P,W,rfl,by omega,r,(by rw[K.block _ (by omega) (by omega)];exact m),(show Qqe _ _ _ _ _ _ from((Y.o.lo (by omega)).frame K (λi E e=>Y.o.ne (b:=(w.heap.size+1)) (T:=43) ⟨_,AG.o⟩ (by decide) (by rw[E,e])))),(show Bi w.heap.size w _ from(((((Q0 V.o J.o).setCell (by simp only;omega) _).setCell (by simp only;omega) _).setCell (by simp only;omega) _).setCell (by simp only;omega) _).setCell (by simp only;omega) _)⟩
 case rest=>
  obtain⟨X,p,M,rfl,hX,AH,HR,Y,A5⟩:=hcut;clear AC AD AE A2 V A3 k1 k2 k3 k4 AO;have BP:X<wc.heap.size:=(Al.1 AH.o).1;have B2:w.heap.size<wc.heap.size:=(Al.1 HR.o).1;have B3:=Ac w _ c0;simp only at B3;clear c1 c2 c3 c4;go_wp2_with fail
  go_loopw [4] (λi wr=>∃(j n:Nat) (q:Option Cm) (S:Nat),j<=cs.length/\i=I Z j/\D (wr.heap[X]?=R (Vs (A q n S) f G H (A p xs.length M)))/\D (Qqa (.slice Q3) wc.heap.size wr [A q n S] (cs.take j))/\D (Q1 (λc=>c=X\/wc.heap.size<=c) wc wr)) (λi _=>cs.length-(Bv i).toNat);case atStart=>exact⟨0,0,N,0,Ak _,rfl,AH.o,Qqa.nil _ _,Q1.refl _ _⟩
  case round=>
   obtain⟨j,n,q,S,hj,rfl,AQ,HN,z⟩:=hrel;have AI:=qh (Q4z A5.o z.o (by omega) (by omega));have BQ:=AI.o.cell _ _ c0;obtain⟨⟨x0,x1,x2,x3,x4⟩,AP⟩:=Qds AQ.o;have A4:=z.o.size;have B4:X<wr.heap.size:=by omega
   by_cases AJ:j<cs.length
   ·obtain⟨b1,o1,rfl,hA⟩:=Rd.elem (HC.o.kept AI.o) j AJ
    have AR:=qh (AW.o j AJ);generalize hx:cs[j]=x at hA;obtain⟨k,l,v,d,ws⟩:=x;have B5:=qh hx;have AS:D (d.length<=100000000/\ws.length<=100000000):=qh (by have:=AR.o;rw[hx]at this;exact this);clear hx AR;simp only[Ty.sz,Bj]at hA;have HA:=qh hA;clear hA;have AT:D (cs.take (j+1)=cs.take j++ [(k,l,v,d,ws)]):=qh (by rw[An AJ,B5.o]);obtain⟨L,hL⟩:∃L:List Qb,L=cs.take j:=⟨_,rfl⟩;rw[<-hL]at HN AT;have B6:D (L.length<=100000000):=qh (by rw[hL,Cj];have:=AX.o;omega);clear hL x1 x2 x3 x4;have BR:(0:Int)<=j:=by omega
    have BS:(j:Int)<cs.length:=by omega
    obtain⟨n',B7,B8⟩:∃n',n'=n/\n'=L.length:=by obtain⟨p9,c9,h9,_⟩:=(let ⟨F,o,_⟩:=HN.o;o.gen:∃(p:Option Cm) (M:Nat),A q n S=A p L.length M/\_);simp only[Cp]at h9;exact⟨n,rfl,h9.2.1⟩
    subst B7;subst B8;go_wp2_with fail
    go_region_law
     (first|((refine Q91 _ rfl (.tmp 30) (.tmp 38) 39 rfl (e:=Q3) 134 ia _ 72 underlying39 AY AZ B0 B1 rfl (by decide) (B:=wc.heap.size) wr (v:=A q L.length S) (xs:=L) (y:=(k,l,v,d,ws)) (vs:=[I Z k,I Z l,I Z v,A B9 d.length BA,A BB ws.length BC]) w1.heap.size 1 rfl rfl HN.o A4 (s.o.alloc s.o.size _) ((BD.o.lo (Aj _)).kept (by go_grown)) (Q11 (Q8 (Bg w1 _) rfl) (Q8 (Bg w1 _) rfl) (Q8 (Bg w1 _) rfl) (Q8 (Bg w1 _) rfl) (Q8 (Bg w1 _) rfl)) Qpv (by have:=B6.o;omega) ?_;intro P c2 w2 AU AK;have BE:=qh AU;have AV:=qh (z.o.trans ((Ay (s.o.alloc s.o.size _)).trans (AK.mono λi E=> .inr E.1)));have BF:=qh (Q4z A5.o AV.o (by omega) (by omega));have AL:D (w2.heap[X]?=R (Vs (A q L.length S) f G H (A p xs.length M))):=qh ((by rw[AK.block X (by rw[Be];omega) (λhh=>by have:=hh.1;omega),Az _ _ _ BG];exact Qe AQ.o s.o));have BT:=(Qds AL.o).2;have BU:=(Qds AL.o).1.1;have BV:=qh (BF.o.trans2 (X:=X) (o:=0) (hX:=(by omega)) (A P (L.length+1) c2) A5.o);clear AU AK))|((go_simp;go_at_call 99;refine(Q3l _ _ _ _ _ _ _ _ (HA.o.kept (Am (by go_grown))) AS.o.1 AS.o.2).mono ?_;rintro e w1 ⟨vs,rfl,hn,hb⟩;obtain⟨B9,BA,BB,BC,rfl⟩:=hn.agentShape;have BD:=qh hn;have s:D (Bi wr.heap.size wr w1):=qh (Q0 (by go_grown) hb);have BH:=qh (AI.o.trans (Am s.o));have BW:w1.cell? ⟨X,0,N⟩=R (A q L.length S):=(Am s.o).cell _ _ x0;have BG:X<w1.heap.size:=Ap B4 s.o.size;have BX:=BH.o.cell _ _ c0;clear hn hb;dsimp only)))
    all_goals
     go_wp2_with fail
     go_roundw;case rel=>exact⟨j+1,_,_,_,by omega,by go_num,Qm5 AL.o _,(show Qqa _ _ _ _ _ by rw[AT.o];exact BE.o.frame ((Q1.refl (λc=>c=X) w2).setCell rfl _) (λi E=>by omega)),(show Q1 _ _ _ from AV.o.setCell (.inl rfl) _)⟩
     case measure=>simp[Bv];omega
   ·have BI:cs.length<=j:=by omega
    have BJ:D (cs.take j=cs):=qh (Ao BI);have m:wr.heap[w.heap.size]?=R (Vs (A N 0 0) 0 0 0 (A N 0 0)):=by rw[z.o.block _ B2 (by rintro(e|e)<;>omega)];exact HR.o
    have BK:=qh m;obtain⟨⟨r0,r1,r2,r3,r4⟩,BY⟩:=Qds m;clear m;go_wp2_with fail
    have r:=Q9i BK.o (A q n S) (A p xs.length M) f G H;have K:=Zq (X:=λc=>c=w.heap.size) (g:=w.heap.size) rfl [A q n S,I Z f,I Z G,I Z H,A p xs.length M] 0 wr;simp only[Qrf,Cd,Bj]at r K;obtain⟨⟨t0,t1,t2,t3,t4⟩,-⟩:=Qds r;refine Ca (v:=.agg #[A q n S,I Z f,I Z G,I Z H,A p xs.length M]) (by simp[results,results53,go_sem,t0,t1,t2,t3,t4]) rfl ?_;obtain⟨Fc,oc,nc,bc⟩:=HN.o.frame K (λi E=>by omega);rw[BJ.o]at oc;obtain⟨Fx,BL,nx,A6⟩:=Y.o.ow rfl;have A1:∀c∈Fx,c<wc.heap.size:=λc C=>(A6 c C).2.lt;have BM:=BL.frame z.o (λc C=>⟨A1 c C,by
     rintro(e|e)
     ·subst e
      exact absurd ((A6 _ C).2.one ⟨_,AH.o⟩) (by decide)
     ·have:=A1 c C;omega⟩)
    have ox:=BM.frame K (λc C=>⟨by have:=A1 c C;omega,λe=>by have:=(A6 c C).1;omega⟩);have BZ:=K.size;obtain⟨h1,h2,h3⟩:=HI.o;refine⟨[A q n S,I Z f,I Z G,I Z H,A p xs.length M],rfl,⟨Fc++Fx,⟨[_],_,Fc,Fx,rfl,rfl,oc,[_],_,[],Fx,rfl,rfl,⟨rfl,h1,rfl⟩,[_,_],_,[],Fx,rfl,rfl,⟨[_],[_],[],[],rfl,rfl,⟨rfl,h2,rfl⟩,⟨rfl,h3,rfl⟩⟩,ox⟩, ?_,λc C=> ?_⟩, ?_⟩
    ·rw[Ba]
     refine⟨nc,nx,λa ha c C e=> ?_⟩;have h4:=(bc a ha).1;have h5:=A1 c C;omega
    ·rcases At0.1 C with C|C
     ·exact⟨by have:=(bc c C).1;omega,(bc c C).2⟩
     ·exact⟨by have:=(A6 c C).1;omega,by have:=A1 c C;omega⟩
    ·exact A5.o.trans ((z.o.below (by omega) (λi E=>by rcases E with e|e<;>omega)).trans (K.below (by omega) (λi E=>by omega)))
theorem Qau:(prog.info? 99).map (λi=>(i.zero,i.size,i.bytes))=R (R (Cz #[I Z 0,I Z 0,A N 0 0,A N 0 0,A N 0 0]),5,88):=by kernel_rfl
def J3(v:Bk)(f t a:Int)(u k:Bk)(c:Int):Obj:=.cells #[v,I Z f,I Z t,I Z a,u,k,I Z c] 46 (0,0)
theorem Q2f{w:Bh}{b:Nat}{v u k:Bk}{f t a c:Int}(h:w.heap[b]?=R (J3 v f t a u k c)):(w.cell? ⟨b,0,N⟩=R v/\w.cell? ⟨b,1,N⟩=R (I Z f)/\w.cell? ⟨b,2,N⟩=R (I Z t)/\w.cell? ⟨b,3,N⟩=R (I Z a)/\w.cell? ⟨b,4,N⟩=R u/\w.cell? ⟨b,5,N⟩=R k/\w.cell? ⟨b,6,N⟩=R (I Z c))/\∀q,w.frozen? ⟨b,q,N⟩=Bm:=
 ⟨⟨Q8 h rfl,Q8 h rfl,Q8 h rfl,Q8 h rfl,Q8 h rfl,Q8 h rfl,Q8 h rfl⟩,λq=>Q0f.free (T:=46) ⟨_,h⟩ q⟩
theorem Q5v{w:Bh}{b:Nat}{v u k:Bk}{f t a c:Int}(h:w.heap[b]?=R (J3 v f t a u k c))(B C E:Bk)(F G H J:Int):
  (Qrf w b 0 [B,I Z F,I Z G,I Z H,C,E,I Z J]).heap[b]?=R (J3 B F G H C E J):=by
 unfold J3 at *
 have:=V3 [B,I Z F,I Z G,I Z H,C,E,I Z J] 0 w _ h;rw[this];simp[Q1n]
theorem Qge{w:Bh}{b:Nat}{v u k:Bk}{f t a c:Int}(h:w.heap[b]?=R (J3 v f t a u k c))(B:Bk):(w.setCell ⟨b,5,N⟩ B).heap[b]?=R (J3 v f t a u B c):=by
 unfold J3 at *
 rw[Z2 h];simp
theorem Qqa.memShape{B:Nat}{w:Bh}{vs:List Bk}{cs:List Qb}{f t a:Int}{xs:List Wd}(h:Qqa Qo B w vs (cs,f,(t,a),xs)):∃(q:Option Cm) (C:Nat) (p:Option Cm) (E:Nat),vs=[A q cs.length C,I Z f,I Z t,I Z a,A p xs.length E]:=by
 obtain⟨G,F,_⟩:=h;obtain⟨_,_,_,_,rfl,_,H,_,_,_,_,rfl,_,⟨rfl,_⟩,_,_,_,_,rfl,_,⟨_,_,_,_,rfl,_,⟨rfl,_⟩,⟨rfl,_⟩⟩,J⟩:=F;obtain⟨q,C,rfl,_⟩:=Jx H;obtain⟨p,E,rfl,_⟩:=Jx J;exact⟨q,C,p,E,rfl⟩
theorem Q1.grown{X:Nat->Prop}{a w w':Bh}{r:Option Nat}(h:Q1 X a w)(k:w.grownBy w' r)(C:∀b,r=R b->a.heap.size<=b\/X b):Q1 X a w':=
 ⟨k.os.trans h.os,k.tape.trans h.tape,k.output.trans h.output,Au h.size k.size,λb B hX=>by rw[k.block b (Ap B h.size) (λe=>(C b e.symm).elim (λE=>by omega) hX)];exact h.block b B hX⟩
def Q2a(p v:Int)(a b c:Bk):Obj:=.cells #[I Z p,I Z v,a,b,c] 99 (0,0)
theorem Qnw{w:Bh}{g:Nat}{p v:Int}{a b c:Bk}(h:w.heap[g]?=R (Q2a p v a b c)):(w.cell? ⟨g,0,N⟩=R (I Z p)/\w.cell? ⟨g,1,N⟩=R (I Z v)/\w.cell? ⟨g,2,N⟩=R a/\w.cell? ⟨g,3,N⟩=R b/\w.cell? ⟨g,4,N⟩=R c)/\∀q,w.frozen? ⟨g,q,N⟩=Bm:=
 ⟨⟨Q8 h rfl,Q8 h rfl,Q8 h rfl,Q8 h rfl,Q8 h rfl⟩,λq=>Q0f.free (T:=99) ⟨_,h⟩ q⟩
theorem Qky{w:Bh}{g:Nat}{p v:Int}{a b c:Bk}(h:w.heap[g]?=R (Q2a p v a b c))(u:Bk):(w.setCell ⟨g,2,N⟩ u).heap[g]?=R (Q2a p v u b c):=by
 unfold Q2a at *;rw[Z2 h];simp
theorem Qli{w:Bh}{g:Nat}{p v:Int}{a b c:Bk}(h:w.heap[g]?=R (Q2a p v a b c))(u:Bk):(w.setCell ⟨g,3,N⟩ u).heap[g]?=R (Q2a p v a u c):=by
 unfold Q2a at *;rw[Z2 h];simp
theorem Qoj{w:Bh}{g:Nat}{p v:Int}{a b c:Bk}(h:w.heap[g]?=R (Q2a p v a b c))(u:Bk):(w.setCell ⟨g,4,N⟩ u).heap[g]?=R (Q2a p v a b u):=by
 unfold Q2a at *;rw[Z2 h];simp
theorem Qw{w:Bh}{b:Nat}{o o':Obj}(h:w.heap[b]?=R o):(w.alloc o').heap[b]?=R o:=by
 rw[Az _ _ _ (Al.1 h).1];exact h
theorem Vv{t:Ty}{T:Cf}(w:Bh)(n:Nat)(B:n=w.heap.size)(C:t.flat=Bn):Qqe t T n (w.alloc (.cells #[] T)) (A (R ⟨n,0,N⟩) 0 0) []:=by
 subst B;exact Qqe.of_block (t:=t) (xs:=[]) (Bg w _) (Aj _) C rfl Q4e.nil (by simp[Bp])
theorem Qpb{p v:Int}{a b c:Option Cm}{n m k x y z:Nat}:∀u∈ [I Z p,I Z v,A a n x,A b m y,A c k z],u.oneCell'=Bn:=by
 intro u B;simp only[List.mem_cons,Ed,or_false]at B;rcases B with rfl|rfl|rfl|rfl|rfl<;>rfl
theorem Qqa.worker{B:Nat}{w:Bh}{L M:Int}{ys:List Wd}{F:List Qqt}{G:List Int}{a b c:Option Cm}{x y z:Nat}(E:Qqm L)(T:Qqm M)(U:Qqe Q4 117 B w (A a ys.length x) ys)(V:Qqe Qu 120 B w (A b F.length y) F)(W:Qqe .int 2 B w (A c G.length z) G):
  Qqa Qc B w [I Z L,I Z M,A a ys.length x,A b F.length y,A c G.length z] (L,M,ys,F,G):=by
 obtain⟨O,X,Y,H⟩:=U.ow rfl;obtain⟨P,d,f,J⟩:=V.ow rfl;obtain⟨S,g,h,K⟩:=W.ow rfl;refine⟨O++(P++S),⟨[_],_,[],_,rfl,rfl,⟨rfl,E,rfl⟩,[_],_,[],_,rfl,rfl,⟨rfl,T,rfl⟩,[_],_,O,_,rfl,rfl,X,[_],[_],P,S,rfl,rfl,d,g⟩, ?_,λq C=> ?_⟩
 ·rw[Ba,Ba]
  refine⟨Y,⟨f,h,λp E q C e=> ?_⟩,λp E q C e=> ?_⟩
  ·subst e;exact absurd ((J p E).2.one (K p C).2) (by decide)
  ·subst e
   rcases At0.1 C with C|C
   ·exact absurd ((H p E).2.one (J p C).2) (by decide)
   ·exact absurd ((H p E).2.one (K p C).2) (by decide)
 ·rcases At0.1 C with C|C
  ·exact⟨(H q C).1,(H q C).2.lt⟩
  ·rcases At0.1 C with C|C
   ·exact⟨(J q C).1,(J q C).2.lt⟩
   ·exact⟨(K q C).1,(K q C).2.lt⟩
theorem Q09(w:Bh)(a:Cm)(v:Bk)(c:Array Bk)(T:Cf):((w.setCell a v).alloc (.cells c T)).heap[w.heap.size]?=R (.cells c T (0,0)):=by
 have:=Bg (w.setCell a v) (.cells c T);simpa using this
theorem Qi3(w:Bh)(b o:Nat)(cs:List Qb)(f H J:Int)(xs:List Wd)(E:List Qqb)(M:Int)(h:At Qr w b o ((cs,f,(H,J),xs),E,M))(hz:Qqy Qr ((cs,f,(H,J),xs),E,M)<=100000000):
  Bq prog 24 #[.pointer (R ⟨b,o,N⟩)] w (Q24 Qr w ((cs,f,(H,J),xs),E,M)):=by
 obtain⟨AN,CC,CD,⟨c5,c6⟩,AO,⟨K,hm,AP⟩⟩:=h.pool;unfold Bp at hm;have HC:=qh AP;have HM:=qh AN;have HI:=qh AO;have B6:Qqy Qr ((cs,f,(H,J),xs),E,M)=Qqy Qo (cs,f,(H,J),xs)+(Qqy (.slice Qc) E+0):=rfl;have B7:D (Qqy Qo (cs,f,(H,J),xs)<=100000000):=qh (by omega);have B8:D (E.length<=100000000):=qh (by have:=Q0a Qc E;omega);have B9:D (∀(i:Nat) (C:i<E.length),(wX E[i]).length<=100000000/\(wL E[i]).length<=100000000/\(wC E[i]).length<=100000000):=qh (λi C=>by
  have h2:=Q0a Qc E;have h3:=Q4g (e:=Qc) C;have h4:=Q7v (e:=Qc) E (i+1);generalize hx:E[i]=x at *
  obtain⟨k,l,ys,T,O⟩:=x;have h5:Qqy Qc (k,l,ys,T,O)=0+(0+(Qqy (.slice Q4) ys+(Qqy (.slice Qu) T+Qqy (.slice .int) O))):=rfl;have h6:=Zd (e:=Q4) rfl ys;have h7:=Zd (e:=Qu) rfl T;have h8:=Zd (e:=.int) rfl O;simp only[wX,wL,wC];omega)
 clear AP AN h hz B6 AO;obtain⟨iw,BA,BB,BC,BD⟩:=Ch Qau;go_enter func24,ntmps24;go_upto_region 1 with fail
 have A6:D ((w.alloc (.cells #[A N 0 0,I Z 0,I Z 0,I Z 0,A N 0 0,A N 0 0,I Z 0] 46)).heap[w.heap.size]?=R (J3 (A N 0 0) 0 0 0 (A N 0 0) (A N 0 0) 0)):=qh (Bg w _);have BE:(w.alloc (.cells #[A N 0 0,I Z 0,I Z 0,I Z 0,A N 0 0,A N 0 0,I Z 0] 46)).heap.size=w.heap.size+1:=Be _ _;have A3:Bi w.heap.size w (w.alloc (.cells #[A N 0 0,I Z 0,I Z 0,I Z 0,A N 0 0,A N 0 0,I Z 0] 46)):=by go_grown
 generalize w.alloc (Fe #[A N 0 0,I Z 0,I Z 0,I Z 0,A N 0 0,A N 0 0,I Z 0] 46)=w0 at *
 have m:=qh A3;have A7:=qh (HM.o.kept (Am A3));have BF:D (At Qo w0.drew b o (cs,f,(H,J),xs)):=qh (A7.o.kept ⟨λa v h=>h⟩);have k6:=(Am A3).cell _ _ c6;have AQ:=Ac w0 _ k6;simp only at AQ;clear A3;have AR:D (((w0.alloc (.cells #[A N 0 0,I Z 0,I Z 0,I Z 0,A N 0 0,A N 0 0,I Z 0] 46)).drew).heap[w.heap.size+1]?=R (J3 (A N 0 0) 0 0 0 (A N 0 0) (A N 0 0) 0)):=qh ((by have hg:=Bg w0 (.cells #[A N 0 0,I Z 0,I Z 0,I Z 0,A N 0 0,A N 0 0,I Z 0] 46);rw[BE]at hg;unfold J3;exact hg))
 go_cut [3] (λx wx=>∃(X:Nat) (q p:Option Cm) (P S:Nat),x=.pointer (R ⟨X,0,N⟩)/\w.heap.size+1<=X/\D (wx.heap[X]?=R (J3 (A q cs.length P) f H J (A p xs.length S) (A N 0 0) M))/\D (wx.heap[w.heap.size]?=R (J3 (A N 0 0) 0 0 0 (A N 0 0) (A N 0 0) 0))/\
  D (∃F,Ow Qo wx [A q cs.length P,I Z f,I Z H,I Z J,A p xs.length S] (cs,f,(H,J),xs) F/\F.Nodup/\∀b∈F,w.heap.size+1<=b/\b<wx.heap.size/\b≠X)/\D (Bi w.heap.size w wx))
 case first=>
  go_region_held3(λw'=>w'.cell? ⟨b,o+6,N⟩=R (I Z M))
   ((refine Qpf (w:=w) ?_ c6;first|with_reducible exact Q0 m.o U.o|with_reducible exact(Q0 m.o U.o).alloc (Au m.o.size U.o.size) _|(with_reducible refine Eu (p:=⟨_,6,N⟩) (Eu (p:=⟨_,5,N⟩) (Eu (p:=⟨_,4,N⟩) (Eu (p:=⟨_,3,N⟩) (Eu (p:=⟨_,2,N⟩) (Eu (p:=⟨_,1,N⟩) (Eu (p:=⟨_,0,N⟩) (Q0 m.o U.o) ?_ _) ?_ _) ?_ _) ?_ _) ?_ _) ?_ _) ?_ _<;>(simp only;omega))|(have hq:=m.o;go_grown)))
   (first|((go_at_call 53;refine(Qjk _ b o cs f H J xs (A7.o.kept (Am (by go_grown))) B7.o).mono ?_;rintro e w1 ⟨vs,rfl,hn,G⟩;obtain⟨q,P,p,S,rfl⟩:=hn.memShape;have s:=qh hn;have U:D (Bi w0.heap.size w0 w1):=qh (Q0 (by go_grown) G);(first|(with_reducible have A8:=Qe AR.o G;obtain⟨⟨z0,z1,z2,z3,z4,z5,z6⟩,BG⟩:=Q2f A8;have BH:=qh A8;clear A8)|skip);clear hn G)))
  all_goals(go_wp2_with fail;go_meet)
  ·have u:=Qe A6.o U.o
   have A9:=U.o.size;obtain⟨F,oF,nF,z⟩:=s.o;exact⟨w1.heap.size,q,p,P,S,rfl,by omega,(show _=R (J3 _ _ _ _ _ _ _)from Bg w1 _),(by rw[Az _ _ _ (by omega)];exact u),⟨F,oF.kept (λb G=>Az _ _ _ (z b G).2),nF,λb G=>⟨by have h1:=(z b G).1;have h2:w0.drew.heap.size=w0.heap.size:=rfl;omega,by have:=(z b G).2;rw[Be];omega,by have:=(z b G).2;omega⟩⟩,(show Bi w.heap.size w _ from(Q0 m.o U.o).alloc (by omega) _)⟩
  ·have V:=Zq (X:=λc=>c=(w.heap.size+1)) (g:=(w.heap.size+1)) rfl [A q cs.length P,I Z f,I Z H,I Z J,A p xs.length S,A N 0 0,I Z M] 0 w1
   have A0:=Q5v BH.o (A q cs.length P) (A p xs.length S) (A N 0 0) f H J M;simp only[Qrf,Cd,Bj]at V A0;have u:=Qe A6.o U.o;have A9:=U.o.size;have CE:=V.size;obtain⟨F,oF,nF,z⟩:=s.o;have A1:∀b∈F,w.heap.size+2<=b/\b<w1.heap.size:=λb G=>⟨by have h1:=(z b G).1;simp at h1;omega,(z b G).2⟩;exact⟨(w.heap.size+1),q,p,P,S,rfl,by omega,A0,(by rw[V.block _ (by omega) (by omega)];exact u),⟨F,oF.frame V (λb G=>⟨(A1 b G).2,by have:=(A1 b G).1;omega⟩),nF,λb G=>⟨by have:=(A1 b G).1;omega,by have:=(A1 b G).2;omega,by have:=(A1 b G).1;omega⟩⟩,(show Bi w.heap.size w _ from(Q0 m.o U.o).trans (V.below (by omega) (λi C=>by omega)))⟩
 case rest=>
  obtain⟨X,q,p,P,S,rfl,hX,AS,HR,BI,AT⟩:=hcut;clear A6 m A7 BF AR k6 AQ;have CF:X<wc.heap.size:=(Al.1 AS.o).1;have BJ:w.heap.size<wc.heap.size:=(Al.1 HR.o).1;have BK:=Ac w _ c5;simp only at BK;clear c6;go_wp2_with fail
  go_loopw [4] (λi wr=>∃(j n:Nat) (Y:Option Cm) (d:Nat),j<=E.length/\i=I Z j/\D (wr.heap[X]?=R (J3 (A q cs.length P) f H J (A p xs.length S) (A Y n d) M))/\D (Qqa (.slice Qc) wc.heap.size wr [A Y n d] (E.take j))/\D (Q1 (λc=>c=X\/wc.heap.size<=c) wc wr)) (λi _=>E.length-(Bv i).toNat);case atStart=>exact⟨0,0,N,0,Ak _,rfl,AS.o,Qqa.nil _ _,Q1.refl _ _⟩
  case round=>
   obtain⟨j,n,Y,d,hj,rfl,AU,s,HF⟩:=hrel;have AV:=qh (Q4z AT.o HF.o (by omega) (by omega));have CG:=AV.o.cell _ _ c5;obtain⟨⟨x0,x1,x2,x3,x4,x5,x6⟩,BG⟩:=Q2f AU.o;have A9:=HF.o.size;have CH:X<wr.heap.size:=by omega
   by_cases AA:j<E.length
   ·obtain⟨b1,o1,rfl,hA⟩:=Rd.elem (HC.o.kept AV.o) j AA
    have AW:=qh (B9.o j AA);generalize hx:E[j]=x at hA;obtain⟨k,l,ys,T,O⟩:=x;have BL:=qh hx;have AB:D (ys.length<=100000000/\T.length<=100000000/\O.length<=100000000):=qh (by have:=AW.o;rw[hx]at this;exact this);clear hx AW;simp only[Ty.sz,Bj]at hA;obtain⟨py,cy,pl,cl,pk,ck,⟨e0,e1,e2,e3,e4⟩,⟨ip,iv⟩,⟨-,-,AX⟩,⟨-,-,AY⟩,⟨-,-,AZ⟩⟩:=At.worker hA;have HY:=qh AX;have BM:=qh AY;have HK:=qh AZ;have B0:=qh (Cg ip iv);clear hA AX AY AZ ip iv;have BN:=Ac wr _ e0;simp only at BN;obtain⟨i0,BO,BP,BQ,BR⟩:=Ch J4;obtain⟨il,BS,BT,BU,BV⟩:=Ch Q0q;have B1:D (E.take (j+1)=E.take j++ [(k,l,ys,T,O)]):=qh (by rw[An AA,BL.o]);obtain⟨L,hL⟩:∃L:List Qqb,L=E.take j:=⟨_,rfl⟩;rw[<-hL]at s B1;have BW:D (L.length<=100000000):=qh (by rw[hL,Cj];have:=B8.o;omega);clear hL x0 x1 x2 x3 x4 x6;have CI:(0:Int)<=j:=by omega
    have CJ:(j:Int)<E.length:=by omega
    obtain⟨n',BX,BY⟩:∃n',n'=n/\n'=L.length:=by obtain⟨p9,c9,h9,_⟩:=(let ⟨F,o,_⟩:=s.o;o.gen:∃(p:Option Cm) (BZ:Nat),A Y n d=A p L.length BZ/\_);simp only[Cp]at h9;exact⟨n,rfl,h9.2.1⟩
    subst BX;subst BY;go_wp2_with(first|((at_builtin;refine Qi _ rfl (.tmp 31) (.tmp 33) 41 rfl (t:=Q4) (v:=A (R ⟨wr.heap.size+1,0,N⟩) 0 0) (xs:=[]) (ys:=ys) rfl (by decide) (wr.heap.size+1) 117 i0 _ 16 underlying41 BO BP BQ BR rfl (by decide) rfl rfl (Vv _ _ (by simp) rfl) (HY.o.kept (Am (by go_grown))) (by have:=AB.o.1;simp;omega) (by simp) ?_;intro v1 w1 AC AD;obtain⟨p1,c1,rfl,-,-⟩:=AC.form;have A4:=qh (AC.eqL (Bt _));have U:=qh (Dr (show Bi wr.heap.size wr _ by go_grown) AD (by simp<;>omega) (λi C=>by simp[Di]at C;omega));have AE:D (w1.heap[wr.heap.size]?=R (Q2a k l (A py ys.length cy) (A pl T.length cl) (A pk O.length ck))):=qh (Q59 AD (Qw (Bg wr _)) (by simp[Di]));have C0:wr.heap.size<w1.heap.size:=(Al.1 AE.o).1;obtain⟨⟨f0,f1,f2,f3,f4⟩,ff⟩:=Qnw AE.o;clear AC AD))|((at_builtin;go_loud(refine Qi _ rfl (.tmp 36) (.tmp 38) 97 rfl (t:=Qu) (v:=A (R ⟨w1.heap.size,0,N⟩) 0 0) (xs:=[]) (ys:=T) rfl (by decide) w1.heap.size 120 il _ 32 underlying97 BS BT BU BV rfl (by decide) rfl rfl (Vv _ _ (by simp) rfl) (BM.o.kept (Am ((U.o.setCell (Aj _) _).alloc (by simp;omega) _))) (by have:=AB.o.2.1;simp;omega) (by simp) ?_;intro v2 w2 AF AG;obtain⟨p2,c2,rfl,-,-⟩:=AF.form;have AH:D (Q1 (λc=>c=wr.heap.size) w1 w2):=qh (Q1.grown (((Q1.refl (λc=>c=wr.heap.size) w1).setCell rfl _).alloc _) AG (λi C=>by simp[Di]at C;left;omega));have AI:=qh (AF.eqL (Bt _));have C1:=qh (A4.o.frame AH.o (λi C e=>by have:=(A4.o.block i C).1;omega));have B2:D (w2.heap[wr.heap.size]?=R (Q2a k l (A p1 ys.length c1) (A pl T.length cl) (A pk O.length ck))):=qh (Q59 AG (Qw (Qky AE.o _)) (by simp[Di];omega));have B3:=qh (U.o.trans (AH.o.below (Nat.le_of_lt C0) (λi C=>Nat.le_of_eq C.symm)));have CK:=AH.o.size;clear f0 f1 f2 f3 f4 ff;obtain⟨⟨f0,f1,f2,f3,f4⟩,ff⟩:=Qnw B2.o;clear AF AG)))|((go_at_call 54;go_loud(refine(Q2o _ _ O (HK.o.kept (Am (B3.o.setCell (Aj _) _))) AB.o.2.2).mono ?_;rintro e W ⟨v3,rfl,ho,G⟩;obtain⟨p3,c3,rfl,-,-⟩:=ho.form;have A5:D (Q1 (λc=>c=wr.heap.size) w2 W):=qh (((Q1.refl (λc=>c=wr.heap.size) w2).setCell rfl _).trans (Ay G));have B4:=qh ho;have C2:=qh (C1.o.frame A5.o (λi C e=>by have:=(A4.o.block i C).1;omega));have C3:=qh (AI.o.frame A5.o (λi C e=>by have:=(AI.o.block i C).1;omega));have C4:D (W.heap[wr.heap.size]?=R (Q2a k l (A p1 ys.length c1) (A p2 T.length c2) (A pk O.length ck))):=qh (Qe (Qli B2.o _) G);have AJ:=qh (B3.o.trans (A5.o.below (by omega) (λi C=>Nat.le_of_eq C.symm)));have CL:=A5.o.size;clear f0 f1 f2 f3 f4 ff;obtain⟨⟨f0,f1,f2,f3,f4⟩,ff⟩:=Qnw C4.o;have AK:=qh (Qe AU.o AJ.o);have y5:=(Q2f AK.o).1.2.2.2.2.2.1;have yf:=(Q2f AK.o).2;clear ho G)))|((at_builtin;go_loud(have A2:D (Q1 (λc=>c=wr.heap.size) W ((W.setCell ⟨wr.heap.size,4,N⟩ (A p3 O.length c3)).alloc (.cells #[I Z k,I Z l,A p1 ys.length c1,A p2 T.length c2,A p3 O.length c3] 99))):=qh (((Q1.refl (λc=>c=wr.heap.size) W).setCell rfl _).alloc _);refine Q0p _ rfl (.tmp 46) (.tmp 48) 44 rfl (e:=Qc) 99 iw _ 88 underlying44 BA BB BC BD rfl (by decide) (B:=wc.heap.size) wr (v:=A Y L.length d) (xs:=L) (y:=(k,l,ys,T,O)) (vs:=[I Z k,I Z l,A p1 ys.length c1,A p2 T.length c2,A p3 O.length c3]) W.heap.size 1 rfl rfl s.o A9 ((AJ.o.setCell (Aj _) _).alloc (by simp;omega) _) (Qqa.worker B0.o.1 B0.o.2 ((C2.o.frame A2.o (λi C e=>by have:=(A4.o.block i C).1;omega)).lo (by omega)) ((C3.o.frame A2.o (λi C e=>by have:=(AI.o.block i C).1;omega)).lo (by omega)) ((B4.o.frame A2.o (λi C e=>by have:=(B4.o.block i C).1;simp at this;omega)).lo (by simp;omega))) (Q11 (Q8 (Q09 W _ _ _ _) rfl) (Q8 (Q09 W _ _ _ _) rfl) (Q8 (Q09 W _ _ _ _) rfl) (Q8 (Q09 W _ _ _ _) rfl) (Q8 (Q09 W _ _ _ _) rfl)) Qpb (by have:=BW.o;omega) ?_;intro p4 c4 w4 B5 AL;have C5:=qh B5;have C6:=qh (HF.o.trans ((Ay AJ.o).trans ((A2.o.mono (λi C=> .inr (by omega))).trans (AL.mono λi C=> .inr C.1))));have AM:D (w4.heap[X]?=R (J3 (A q cs.length P) f H J (A p xs.length S) (A Y L.length d) M)):=qh ((by rw[AL.block X (by rw[Be];simp;omega) (λhh=>by have:=hh.1;omega),A2.o.block X (by omega) (by omega)];exact AK.o));have CM:=(Q2f AM.o).2;have CN:=(Q2f AM.o).1.2.2.2.2.2.1;clear B5 AL))))
    go_roundw;case rel=>exact⟨j+1,_,_,_,by omega,by go_num,Qge AM.o _,(show Qqa _ _ _ _ _ by rw[B1.o];exact C5.o.frame ((Q1.refl (λc=>c=X) w4).setCell rfl _) (λi C=>by omega)),(show Q1 _ _ _ from C6.o.setCell (.inl rfl) _)⟩
    case measure=>simp[Bv];omega
   ·have C7:E.length<=j:=by omega
    have C8:D (E.take j=E):=qh (Ao C7);have u:wr.heap[w.heap.size]?=R (J3 (A N 0 0) 0 0 0 (A N 0 0) (A N 0 0) 0):=by rw[HF.o.block _ BJ (by rintro(e|e)<;>omega)];exact HR.o
    have C9:=qh u;obtain⟨⟨r0,r1,r2,r3,r4,r5,r6⟩,CO⟩:=Q2f u;clear u;go_wp2_with fail
    have A0:=Q5v C9.o (A q cs.length P) (A p xs.length S) (A Y n d) f H J M;have V:=Zq (X:=λc=>c=w.heap.size) (g:=w.heap.size) rfl [A q cs.length P,I Z f,I Z H,I Z J,A p xs.length S,A Y n d,I Z M] 0 wr;simp only[Qrf,Cd,Bj]at A0 V;obtain⟨⟨t0,t1,t2,t3,t4,t5,t6⟩,-⟩:=Q2f A0;refine Ca (v:=.agg #[A q cs.length P,I Z f,I Z H,I Z J,A p xs.length S,A Y n d,I Z M]) (by simp[results,results24,go_sem,t0,t1,t2,t3,t4,t5,t6]) rfl ?_;obtain⟨Fc,oc,nc,bc⟩:=s.o.frame V (λi C=>by omega);rw[C8.o]at oc;obtain⟨Fm,CA,nm,r⟩:=BI.o;have CB:=CA.frame HF.o (λc K=>⟨(r c K).2.1,by
     rintro(e|e)
     ·exact(r c K).2.2 e
     ·have:=(r c K).2.1;omega⟩)
    have CP:=V.size;have om:=CB.frame V (λc K=>⟨by have:=(r c K).2.1;omega,λe=>by have:=(r c K).1;omega⟩);refine⟨[A q cs.length P,I Z f,I Z H,I Z J,A p xs.length S,A Y n d,I Z M],rfl,⟨Fm++Fc,⟨[_,_,_,_,_],[_,_],Fm,Fc,rfl,rfl,om,[_],[_],Fc,[],rfl,by simp,oc,⟨rfl,HI.o,rfl⟩⟩, ?_,λc K=> ?_⟩, ?_⟩
    ·rw[Ba]
     refine⟨nm,nc,λa ha c K e=> ?_⟩;have h4:=(bc c K).1;have h5:=(r a ha).2.1;omega
    ·rcases At0.1 K with K|K
     ·exact⟨by have:=(r c K).1;omega,by have:=(r c K).2.1;omega⟩
     ·exact⟨by have:=(bc c K).1;omega,(bc c K).2⟩
    ·exact AT.o.trans ((HF.o.below (by omega) (λi C=>by rcases C with e|e<;>omega)).trans (V.below (by omega) (λi C=>by omega)))
theorem Q29{α:Type}{p:α->Bool}{xs:List α}{k:Nat}(h:k<xs.length):(xs.take (k+1)).countP p=(xs.take k).countP p+(if p xs[k]then 1 else 0):=by
 rw[An h,List.countP_append];simp[List.countP_cons]
theorem Qmj(w:Bh)(b o:Nat)(m:Qqp)(h:At Qo w b o m):
  Bq prog 138 #[.pointer (R ⟨b,o,N⟩)] w λe w'=>e=.returned (.bool (Zg (mC m) (Z3 (mC m)) (mF m)))/\w=w':=by
 obtain⟨cs,f,⟨t,y⟩,xs⟩:=m;obtain⟨z,cc,_,_,⟨c0,c1,-,-,-⟩,⟨K,-,-⟩,⟨hc,U,L⟩,-⟩:=h.mem;unfold Bp at U;have M:=qh L;have V:=qh K;have A0:=Q1o (n:=cs.length) (by omega);clear L h K;go_enter func138,ntmps138;go_wp2_with fail
 go_loopw [3,4] (λu i wr=>∃(j:Nat),j<=cs.length/\i=I Z j/\u=I Z ((cs.take j).countP λc=>aK c==0:Nat)/\w=wr) (λ_ i _=>cs.length-(Bv i).toNat);case atStart=>exact⟨0,Ak _,rfl,by simp,rfl⟩
 case round=>
  obtain⟨j,hj,rfl,rfl,rfl⟩:=hrel;by_cases O:j<cs.length
  ·obtain⟨W,X,rfl,B⟩:=Rd.elem M.o j O
   generalize hx:cs[j]=x at B;obtain⟨k,l,v,d,ws⟩:=x;have E:=qh hx;clear hx;obtain⟨_,_,_,_,⟨G,-,-,-,-⟩,-,-,-⟩:=B.agent;simp only[Ty.sz,Bj]at G;have H:=Dc (p:=λc=>aK c==0) (l:=cs.take j);rw[Cj]at H;have P:=qh (Q29 (p:=λc:Qb=>aK c==0) O);clear B;generalize hcn:(cs.take j).countP (λc=>aK c==0)=cn at *
   by_cases C:k=0
   ·subst C
    go_wp2_with fail
    go_roundw;case rel=>exact⟨j+1,by omega,by go_num,by rw[P.o,E.o];simp[aK],trivial⟩
    case measure=>simp[Bv];omega
   ·have J:(k==0)=Bm:=by simp[C]
    go_wp2_with fail
    go_roundw;case rel=>exact⟨j+1,by omega,by go_num,by rw[P.o,E.o];simp[aK,J],trivial⟩
    case measure=>simp[Bv];omega
  ·have H:cs.length<=j:=by omega
   have Y:D ((cs.take j).countP (λc=>aK c==0)=Z3 cs):=qh (by rw[Ao H];rfl);rw[Y.o];have A1:Z3 cs<=cs.length:=Dc;go_wp2_with fail
   go_loopw [3,5] (λu i wr=>∃(n:Nat) (q:Int),n<=Z3 cs/\u=I Z n/\i=I Z q/\Qqm q/\D (Zg cs (Z3 cs) f=Zg cs n q)/\w=wr) (λu _ _=>(Bv u).toNat);case atStart=>exact⟨_,_,Aj _,rfl,rfl,V.o,rfl,rfl⟩
   case round=>
    obtain⟨n,q,hn,rfl,rfl,a,F,rfl⟩:=hrel;have A2:=a.bd;cases n with
    |zero=>
     go_wp2_with fail
     go_ret;exact⟨Q2 (by show _=Zg cs (Z3 cs) f;rw[F.o];rfl),rfl⟩
    |succ n=>
     cases hin:Qqz q 0 ((cs.length:Int)-1)with
     |false=>
      go_wp2_with(go_at_call 88;refine(Js _ _ _ _).mono ?_;rintro e w' ⟨rfl,rfl⟩;rw[hin])
      go_ret;exact⟨Q2 (by show _=Zg cs (Z3 cs) f;rw[F.o];simp only[Zg,hin,Cn]),rfl⟩
     |true=>
      have g:=Ql.1 hin;have S:q.toNat<cs.length:=by omega
      obtain⟨W,X,rfl,B⟩:=Rd.elem M.o q.toNat S;generalize hx:cs[q.toNat]=x at B;obtain⟨k,l,v,d,ws⟩:=x;have E:D (Q7 cs q=(k,l,v,d,ws)):=qh (by unfold Q7;rw[Qx S,hx]);clear hx;obtain⟨_,_,_,_,⟨G,-,r,-,-⟩,⟨-,-,T⟩,-,-⟩:=B.agent;simp only[Ty.sz,Bj]at G r;have s:=qh T;clear B T;have A3:(0:Int)<=q:=g.1;have A4:q<cs.length:=by omega
      by_cases C:k=0
      ·have J:(k !=0)=Bm:=by simp[C]
       go_wp2_with(go_at_call 88;refine(Js _ _ _ _).mono ?_;rintro e w' ⟨rfl,rfl⟩;rw[hin])
       go_roundw;case rel=>exact⟨n,v,by omega,by go_num,rfl,s.o,(show Zg cs (Z3 cs) f=Zg cs n v by rw[F.o];simp only[Zg,hin,E.o,aK,aV,C,Dl,beq_self_eq_true]),trivial⟩
       case measure=>(simp[Bv]<;>omega)
      ·have J:(k !=0)=Bn:=by simp[C]
       go_wp2_with(go_at_call 88;refine(Js _ _ _ _).mono ?_;rintro e w' ⟨rfl,rfl⟩;rw[hin])
       go_ret;exact⟨Q2 (by
        show _=Zg cs (Z3 cs) f;rw[F.o];have:(k==0)=Bm:=by simp[C]
        simp only[Zg,E.o,aK,this,Dp,Cn]),rfl⟩
end Go.Proofs.YthbpkpnioaniiaaGreat
