import Derived.Test.YthbpkpnioaniiaaGreatP03
set_option maxHeartbeats 40000000
set_option maxRecDepth 100000
set_option linter.all false
namespace Go.Proofs.YthbpkpnioaniiaaGreat
open Go.RowKit Go.Proofs.Tryz
open Go.Value renaming int->I,slice->A
open Go.IntKind renaming i64->Z
open Option renaming none->N,some->R
open Bool renaming false->Bm,true->Bn,eq_false_iff->Es
open Go renaming World->Bh,maxLen->Bp,Calls->Bq,info_parts->Ch,heap_alloc_new->Bg
open Go.RowKit renaming Below->Bi,intOf->Bv
open List renaming range->Bz,range_succ->Ea,filter_append->Gm,map_append->Ff,length_map->Fg,length_filter_le->Dx,length_range->Fy,length_singleton->Dw,flatMap_append->Ek,length_append->Bo,length_take->Cj,cons_append->Cc,nil_append->Bt
open Nat renaming reduceAdd->Bj
theorem Qgt(w:Bh)(H:Option Addr)(J:Nat)(bk:List Qr2)(b o:Nat)(p:J9)(K:Rd (.slice Je) w [A H bk.length J] bk)(L:bk.length<=Bp)(h:At Qr w b o p)(M:(Z6 (pM p)).length+(Vi (pW p)).length<=10000000)(O:(Qz (pW p)).length<=10000000):
  Bq prog 20 #[A H bk.length J,.pointer (R ⟨b,o,N⟩)] w λe w'=>e=.returned (I Z (if Q0u bk && J2 p then 0 else 1))/\Bi w.heap.size w w':=by
 have E:=qh K;have P:=qh h;have S:=qh M;have T:=qh O;have F:=qh L;clear K h M O L;cases q0:Q0u bk with
 |false=>
  go_enter func20,ntmps20;go_wp2_with(go_at_call 49;refine(Qg1 _ _ _ _ E.o F.o).mono ?_;rintro e w1 ⟨rfl,B⟩;rw[q0];have C:=qh B;clear B)
  go_ret;exact⟨rfl,C.o⟩
 |true=>
  cases q1:J2 p with
  |false=>
   go_enter func20,ntmps20;go_wp2_with(first|(go_at_call 49;refine(Qg1 _ _ _ _ E.o F.o).mono ?_;rintro e w1 ⟨rfl,B⟩;rw[q0];have C:=qh B;clear B)|(go_at_call 50;refine(Qee _ _ _ _ (P.o.kept (Am C.o)) S.o T.o).mono ?_;rintro e w2 ⟨rfl,B⟩;rw[q1];have G:=qh B;clear B))
   go_ret;exact⟨rfl,Q0 C.o G.o⟩
  |true=>
   go_enter func20,ntmps20;go_wp2_with(first|(go_at_call 49;refine(Qg1 _ _ _ _ E.o F.o).mono ?_;rintro e w1 ⟨rfl,B⟩;rw[q0];have C:=qh B;clear B)|(go_at_call 50;refine(Qee _ _ _ _ (P.o.kept (Am C.o)) S.o T.o).mono ?_;rintro e w2 ⟨rfl,B⟩;rw[q1];have G:=qh B;clear B))
   go_ret;exact⟨rfl,Q0 C.o G.o⟩
theorem Q6n{p:J9}{j:Nat}:((Bz (j+1)).filter λ(k:Nat)=>wP (Q5 p k) !=4).map (λ(k:Nat)=>(k:Int))=((Bz j).filter λ(k:Nat)=>wP (Q5 p k) !=4).map (λ(k:Nat)=>(k:Int))++(if wP (Q5 p j) !=4 then [(j:Int)]else []):=by
 rw[Ea,Gm,Ff];congr 1
 cases h:(wP (Q5 p j) !=4)<;>simp[h]
theorem Qo8(w:Bh)(b o:Nat)(p:J9)(h:At Qr w b o p)(T:(pW p).length<=1000000):
  Bq prog 21 #[.pointer (R ⟨b,o,N⟩)] w λe w'=>∃v,e=.returned v/\Qqe .int 2 w.heap.size w' v (Q1b p)/\Bi w.heap.size w w':=by
 obtain⟨P,K⟩:∃P,P=p:=⟨_,rfl⟩;obtain⟨m,C,ac⟩:=p;obtain⟨-,A4,A5,⟨U,-⟩,-,⟨hc,l,V⟩⟩:=h.pool;have W:D (pW P=C):=qh (by rw[K];rfl);have T:C.length<=1000000:=T;rw[<-K];have n:=qh V;have q:=Ac w _ U;simp only at q;clear V h K l;obtain⟨r,s,y,z,A0⟩:=Ch Q3n;go_enter func21,ntmps21;go_wp2_with fail
 have X:=qh (Qqe.of_block (t:=.int) (xs:=[]) (Bg w (.cells #[] 2)) (Aj _) rfl rfl Q4e.nil (by simp[Bp]));go_loopw [3,4] (λu i wr=>∃(j:Nat),j<=C.length/\i=I Z j/\D (Qqe .int 2 w.heap.size wr u (((Bz j).filter λ(k:Nat)=>wP (Q5 P k) !=4).map (λ(k:Nat)=>(k:Int))))/\D (Bi w.heap.size w wr)) (λ_ i _=>C.length-(Bv i).toNat);case atStart=>exact⟨0,Ak _,rfl,X.o,(show Bi w.heap.size w _ by go_grown)⟩
 case round=>
  obtain⟨j,hj,rfl,E,F⟩:=hrel;clear X;have A6:=(Am F.o).cell _ _ U;by_cases Y:j<C.length
  ·obtain⟨b1,o1,rfl,M⟩:=Rd.elemW (n.o.kept (Am F.o)) j Y
   generalize hx:C[j]=x at M;obtain⟨G,vi,xs,ls,cs⟩:=x;have a:D (wP (Q5 P j)=G):=qh (by simp only[Q5,W.o,List.getD_eq_getElem?_getD,List.getElem?_eq_getElem Y,hx];rfl);clear hx;obtain⟨_,_,_,_,_,_,⟨e0,-,-,-,-⟩,-,-,-,-⟩:=M.worker;clear M;obtain⟨L,H⟩:∃L:List Int,L=((Bz j).filter λ(k:Nat)=>wP (Q5 P k) !=4).map (λ(k:Nat)=>(k:Int)):=⟨_,rfl⟩;rw[<-H]at E;have c:=qh H;have A1:D (L.length<=j):=qh (by rw[H,Fg];have:=Dx (λ(k:Nat)=>wP (Q5 P k) !=4) (Bz j);rw[Fy]at this;exact this);clear H;obtain⟨pu,cu,rfl,A7,A8⟩:=E.o.form;have A9:w.heap.size<=wr.heap.size:=F.o.size;by_cases J:G=4
   ·have O:(G !=4)=Bm:=by simp[J]
    have S:=qh O;clear J;go_wp2_with fail
    go_roundw;case rel=>exact⟨j+1,by omega,by go_num,E.o.eqL (by rw[Q6n,a.o,S.o,c.o];simp),F.o⟩
    case measure=>simp[Bv];omega
   ·have O:(G !=4)=Bn:=by simp[J]
    have S:=qh O;clear J;have HJ:D (Qqm (j:Int)):=qh (by unfold Qqm;omega);go_wp2_with(at_builtin;refine Qi _ rfl (.tmp 24) (.tmp 26) 63 rfl (t:=.int) (v:=A pu L.length cu) (xs:=L) (ys:=[(j:Int)]) rfl (by decide) w.heap.size 2 r _ 8 underlying63 s y z A0 rfl (by decide) rfl rfl (E.o.kept (show Bi wr.heap.size wr _ by go_grown)) ((Qqe.of_block (t:=.int) (xs:=[(j:Int)]) (B:=wr.heap.size) (Bg wr _) (Aj _) rfl rfl (Q2d (t:=.int) (x:=(j:Int)) HJ.o) (by simp[Bp])).rd rfl) (by have:=A1.o;simp only[Dw];omega) (by simp;omega) ?_;intro v1 w1 d f;have A2:=qh f;have A3:=qh d;clear d f)
    go_roundw;case rel=>exact⟨j+1,by omega,by go_num,A3.o.eqL (by rw[Q6n,a.o,S.o,c.o];rfl),Below.grown (F.o.alloc (by omega) _) A2.o (by simp;omega) (λi hi=>(E.o.block i hi).1)⟩
    case measure=>simp[Bv];omega
  ·have AA:C.length<=j:=by omega
   have g:j=C.length:=by omega
   have HE:=qh g;clear g;go_wp2_with fail
   go_ret;refine⟨_,rfl,E.o.eqL ?_,F.o⟩;rw[HE.o];simp only[Q1b,W.o]
def Q2c(n:List Qb)(i:Nat):Bool:=i !=0 && ((Qt n ((i:Int),0)).2==0 && decide ((i:Int)<(Qt n ((i:Int),0)).1))
def Q1u(n:List Qb)(j:Nat):List Wd:=((Bz j).filter (Q2c n)).map λ(i:Nat)=>((i:Int),(Qt n (i,0)).1)
theorem Q1r(n:List Qb):Yd n=Q1u n n.length:=rfl
theorem Q6c(n:List Qb):Q1u n 1=[]:=by
 simp[Q1u,Q2c]
theorem Q37(n:List Qb)(j:Nat):Q1u n (j+1)=Q1u n j++(if Q2c n j then [((j:Int),(Qt n (j,0)).1)]else []):=by
 unfold Q1u;rw[Ea,Gm,Ff];congr 1
 cases h:Q2c n j<;>simp[h]
theorem Q14(n:List Qb)(j:Nat):(Q1u n j).length<=j:=by
 unfold Q1u;rw[Fg];have:=Dx (Q2c n) (Bz j);rw[Fy]at this;exact this
theorem Qm8(w:Bh)(b o:Nat)(n:List Qb)(h:At Je w b o n)(hl:n.length<=1000000)(X:∀i,1<=i->i<n.length->aK (Qn n i)≠0/\0<(aW (Qn n i)).length):
  Bq prog 226 #[.pointer (R ⟨b,o,N⟩)] w λe w'=>∃v,e=.returned v/\Qqe Q4 117 w.heap.size w' v (Yd n)/\Bi w.heap.size w w':=by
 obtain⟨p,c,Y,hc,hm,f⟩:=h.net;have HN:=qh f;have HV:=qh X;have A3:=Ac w _ Y;simp only at A3;clear f h hm X;obtain⟨i0,A4,A5,A6,A7⟩:=Ch J4;go_enter func226,ntmps226;go_wp2_with fail
 have m:=qh (Vv (t:=Q4) (T:=117) w w.heap.size rfl rfl);go_loopw [3,4] (λu i wr=>∃(j:Nat),1<=j/\(j<=n.length\/j=1)/\i=I Z j/\D (Qqe Q4 117 w.heap.size wr u (Q1u n j))/\D (Bi w.heap.size w wr)) (λ_ i _=>n.length-(Bv i).toNat);case atStart=>exact⟨1,Aj _,.inr rfl,rfl,m.o.eqL (Q6c n).symm,(show Bi w.heap.size w _ by go_grown)⟩
 case round=>
  obtain⟨j,A8,H,rfl,C,E⟩:=hrel;clear m;have A9:=(Am E.o).cell _ _ Y;by_cases J:j<n.length
  ·obtain⟨b1,o1,rfl,P⟩:=Rd.elem (HN.o.kept (Am E.o)) j J
   obtain⟨K,M⟩:=HV.o j A8 J;generalize hx:n[j]=x at P;rw[Qx J,hx]at K M;obtain⟨k,l,v,d,ws⟩:=x;simp only[aK,aW]at K M;obtain⟨_,_,pw,cw,⟨e0,-,-,-,q⟩,-,-,⟨AI,AA,r⟩⟩:=P.agent;obtain⟨b2,o2,rfl,S⟩:=Rd.elem r 0 M;generalize hy:ws[0]=y at S;obtain⟨F,U⟩:=y;obtain⟨f0,f1,s,z⟩:=S.word;simp only[Ty.sz,Bj,Nat.zero_mul,Nat.add_zero]at e0 q f0 f1;have A0:D (Qt n ((j:Int),0)=(F,U)):=qh (by simp only[Qt,Q7,Int.toNat_natCast,Qx J,hx,aW];rw[Ab];show(ws[0]?).getD (0,0)=_;rw[Ad M,hy];rfl);have AJ:(k==0)=Bm:=by simpa using K
   have HI:=qh (And.intro s z);clear P S hy hx r K s z AA;have V:D (Q2c n j=((U==0) && decide ((j:Int)<F))):=qh (by
    unfold Q2c;rw[A0.o];have:(j !=0)=Bn:=by simp;omega
    rw[this];simp)
   have AB:=Ac wr _ A9;have AC:=Ac wr _ q;have AD:=Ac wr _ f0;simp only at AB AC AD;have AK:(0:Int)<=j:=by omega
   have AL:(j:Int)<n.length:=by omega
   have AM:(0:Int)<ws.length:=by omega
   have AN:w.heap.size<=wr.heap.size:=E.o.size;obtain⟨L,O⟩:∃L:List Wd,L=Q1u n j:=⟨_,rfl⟩;have AE:D (L.length<=j):=qh (by rw[O];exact Q14 n j);rw[<-O]at C;have W:=qh O;clear O;obtain⟨pu,cu,rfl,AO,AP⟩:=C.o.form;cases q1:(U==0)with
   |false=>
    have G:D (Q2c n j=Bm):=qh (by rw[V.o,q1];rfl);go_wp2_with fail
    go_roundw;case rel=>exact⟨j+1,by omega,.inl (by omega),by go_num,((C.o.kept (show Bi wr.heap.size wr _ by go_grown)).eqL (by rw[Q37,G.o,W.o];simp)),E.o.alloc (by omega) _⟩
    case measure=>simp[Bv];omega
   |true=>
    cases q2:decide ((j:Int)<F)with
    |false=>
     have G:D (Q2c n j=Bm):=qh (by rw[V.o,q2];simp);go_wp2_with fail
     go_roundw;case rel=>exact⟨j+1,by omega,.inl (by omega),by go_num,((C.o.kept (show Bi wr.heap.size wr _ by go_grown)).eqL (by rw[Q37,G.o,W.o];simp)),E.o.alloc (by omega) _⟩
     case measure=>simp[Bv];omega
    |true=>
     have G:D (Q2c n j=Bn):=qh (by rw[V.o,q1,q2];rfl);have AF:=qh (Q2d (t:=Q4) (x:=((j:Int),F)) (Q3p (a:=(j:Int)) (b:=F) (by unfold Qqm;omega) HI.o.1));go_wp2_with(at_builtin;refine Qi _ rfl (.tmp 44) (.tmp 49) 41 rfl (t:=Q4) (v:=A pu L.length cu) (xs:=L) (ys:=[((j:Int),F)]) rfl (by decide) w.heap.size 117 i0 _ 16 underlying41 A4 A5 A6 A7 rfl (by decide) rfl rfl (C.o.kept (show Bi wr.heap.size wr _ by go_grown)) ((Qqe.of_block (t:=Q4) (xs:=[((j:Int),F)]) (B:=wr.heap.size) (g:=wr.heap.size+1) (Jn wr _ _ _ _).2 (by omega) rfl rfl AF.o (by simp[Bp])).rd rfl) (by have:=AE.o;simp only[Dw];omega) (by simp;omega) ?_;intro v1 w1 A1 A2;have AG:=qh A2;have AH:=qh A1;clear A1 A2)
     go_roundw;case rel=>exact⟨j+1,by omega,.inl (by omega),by go_num,AH.o.eqL (by rw[Q37,G.o,W.o,A0.o];rfl),Below.grown ((E.o.alloc (by omega) _).alloc (by simp;omega) _) AG.o (by simp;omega) (λi hi=>(C.o.block i hi).1)⟩
     case measure=>simp[Bv];omega
  ·go_wp2_with fail
   go_ret;refine⟨_,rfl,C.o.eqL ?_,E.o⟩;rw[Q1r];rcases H with H|H
   ·rw[show j=n.length by omega]
   ·subst H
    rw[Q6c];rcases Nat.lt_or_ge n.length 1 with h|h
    ·rw[show n.length=0 by omega];rfl
    ·rw[show n.length=1 by omega,Q6c]
def Q5q(n:List Qb)(l:List Wd):List Qqt:=(l.filter λp=>Q03 p (Qt n p)).map λp=>(p,Qt n p)
theorem Qdx(n:List Qb)(l:List Wd)(p:Wd):Q5q n (l++ [p])=Q5q n l++(if Q03 p (Qt n p)then [(p,Qt n p)]else []):=by
 unfold Q5q;rw[Gm,Ff];congr 1
 cases h:Q03 p (Qt n p)<;>simp[h]
def Q07(n:List Qb)(j q:Nat):List Qqt:=Q5q n ((Bz j).flatMap (Q0i n)++(Q0i n j).take q)
theorem Qe1(n:List Qb):Q07 n 0 0=[]:=by simp[Q07,Q5q]
theorem V0(n:List Qb)(j:Nat):(Q0i n j).length=(aW (Qn n j)).length:=by simp[Q0i]
theorem Qdp{n:List Qb}{j q:Nat}(h:q<(aW (Qn n j)).length):Q07 n j (q+1)=Q07 n j q++(if Q03 ((j:Int),(q:Int)) (Qt n ((j:Int),(q:Int)))then [(((j:Int),(q:Int)),Qt n ((j:Int),(q:Int)))]else []):=by
 unfold Q07;have B:q<(Q0i n j).length:=by rw[V0];exact h
 rw[An B,<-List.append_assoc,Qdx];have:(Q0i n j)[q]=((j:Int),(q:Int)):=by simp[Q0i]
 rw[this]
theorem Qe5{n:List Qb}{j q:Nat}(h:(aW (Qn n j)).length<=q):Q07 n (j+1) 0=Q07 n j q:=by
 unfold Q07;rw[List.take_zero,List.append_nil,Ea,Ek,Ao (by rw[V0];exact h)];simp
theorem Qih(n:List Qb):Yk n=Q07 n n.length 0:=by
 unfold Yk Q07 Q5q Qs;simp
theorem Qaj{n:List Qb}{j q:Nat}(C:j<n.length):(Q07 n j q).length<=(Qs n).length:=by
 unfold Q07 Q5q;rw[Fg];refine Au (Dx _ _) ?_;have B:(Bz n.length)=Bz (j+1)++(Bz n.length).drop (j+1):=by have:=List.take_append_drop (j+1) (Bz n.length);rw[List.take_range,Nat.min_eq_left (by omega)]at this;exact this.symm
 unfold Qs;rw[B,Ek,Ea,Ek,Bo,Bo,Bo,Cj];simp only[List.flatMap_singleton];omega
theorem Q6q{t a B C:Int}(E:Qqm t)(F:Qqm a)(G:Qqm B)(H:Qqm C):Q4e Qu (((t,a),(B,C)):(Int×Int)×(Int×Int)):=⟨⟨E,F⟩,⟨G,H⟩⟩
theorem Qbg:(prog.info? 272).map (λi=>(i.zero,i.size,i.bytes))=R (R (Value.agg #[I Z 0,I Z 0,I Z 0,I Z 0]),4,32):=by kernel_rfl
theorem Qgl(w:Bh)(b o:Nat)(n:List Qb)(h:At Je w b o n)(hl:n.length<=1000000)(A9:(Qs n).length<=10000000):
  Bq prog 221 #[.pointer (R ⟨b,o,N⟩)] w λe w'=>∃v,e=.returned v/\Qqe Qu 272 w.heap.size w' v (Yk n)/\Bi w.heap.size w w':=by
 obtain⟨p,c,f,hc,hm,hn⟩:=h.net;have HN:=qh hn;have AA:=qh A9;have AH:=Ac w _ f;simp only at AH;clear hn h hm A9;obtain⟨i0,AI,AJ,AK,AL⟩:=Ch Qbg;go_enter func221,ntmps221;go_wp2_with fail
 have AB:=qh (Vv (t:=Qu) (T:=272) w w.heap.size rfl rfl);go_loopw [3,4] (λu i wr=>∃(j:Nat),j<=n.length/\i=I Z j/\D (Qqe Qu 272 w.heap.size wr u (Q07 n j 0))/\D (Bi w.heap.size w wr)) (λ_ i _=>n.length-(Bv i).toNat);case atStart=>exact⟨0,Ak _,rfl,AB.o.eqL (Qe1 n).symm,(show Bi w.heap.size w _ by go_grown)⟩
 case round=>
  rename Bh=>wo
  obtain⟨j,hj,rfl,HO,O⟩:=hrel;clear AB;have P:=(Am O.o).cell _ _ f;by_cases S:j<n.length
  ·obtain⟨m,r,rfl,hA⟩:=Rd.elem HN.o j S
   generalize hx:n[j]=x at hA;obtain⟨k,l,v,d,ws⟩:=x;have s:D (Qn n j=(k,l,v,d,ws)):=qh (by rw[Qx S,hx]);obtain⟨_,_,pw,cw,⟨-,-,-,-,U⟩,-,-,⟨B3,AM,AC⟩⟩:=hA.agent;simp only[Ty.sz,Bj]at U;have HW:=qh AC;have B4:ws.length<=1000000000000:=by
    have h1:(Qs n).length<=10000000:=AA.o;have h2:=Qaj (n:=n) (j:=j) (q:=ws.length) S;have h3:(Q0i n j).length<=(Qs n).length:=by unfold Qs;exact(List.sublist_flatten_of_mem (List.mem_map.2 ⟨j,List.mem_range.2 S,rfl⟩)).length_le
    rw[V0,s.o]at h3;simp only[aW]at h3;omega
   have AN:D (Q07 n (j+1) 0=Q07 n j ws.length):=qh (Qe5 (by rw[s.o];exact Aj _));clear hA hx AC AM;have B5:(0:Int)<=j:=by omega
   have B6:(j:Int)<n.length:=by omega
   have AO:=Ac w _ U;simp only at AO;have AP:=(Am O.o).cell _ _ U;go_wp2_with fail
   go_loopw [3,5] (λu i wr=>∃(q:Nat),q<=ws.length/\i=I Z q/\D (Qqe Qu 272 w.heap.size wr u (Q07 n j q))/\D (Bi w.heap.size w wr)) (λ_ i _=>ws.length-(Bv i).toNat);case atStart=>exact⟨0,Ak _,rfl,HO.o,O.o⟩
   case round=>
    obtain⟨q,hq,rfl,G,H⟩:=hrel;clear HO O P AP;have P:=(Am H.o).cell _ _ f;have A0:=(Am H.o).cell _ _ U;by_cases A1:q<ws.length
    ·obtain⟨K,M,rfl,hE⟩:=Rd.elem HW.o q A1
     generalize hy:ws[q]=y at hE;obtain⟨C,E⟩:=y;obtain⟨A2,A3,ia,is⟩:=hE.word;simp only[Ty.sz,Bj]at A2 A3;have f0:=(Am H.o).cell _ _ A2;have f1:=(Am H.o).cell _ _ A3;have AQ:D (Qt n ((j:Int),(q:Int))=(C,E)):=qh (by simp only[Qt,Q7,Int.toNat_natCast,s.o,aW];rw[Ab,Ad A1,hy];rfl);have HI:=qh (And.intro ia is);clear hE hy ia is;have A4:D (Q07 n j (q+1)=Q07 n j q++(if Q03 ((j:Int),(q:Int)) (C,E)then [(((j:Int),(q:Int)),(C,E))]else [])):=qh (by rw[Qdp (by rw[s.o];exact A1),AQ.o]);have AR:=Ac wr _ P;have AS:=Ac wr _ A0;have AT:=Ac wr _ f0;simp only at AR AS AT;have B7:(0:Int)<=q:=by omega
     have B8:(q:Int)<ws.length:=by omega
     have AD:w.heap.size<=wr.heap.size:=H.o.size;obtain⟨L,hL⟩:∃L:List Qqt,L=Q07 n j q:=⟨_,rfl⟩;have AU:D (L.length<=10000000):=qh (by rw[hL];exact Au (Qaj S) AA.o);rw[<-hL]at G A4;clear hL;obtain⟨pu,cu,rfl,B9,BA⟩:=G.o.form;go_wp2_with fail
     have HZ:D ((wr.alloc (Obj.cells #[I Z j,I Z q] 185)).heap[wr.heap.size]?=R (.cells #[I Z j,I Z q] 185 (0,0))):=qh (Bg wr _);have V:D (Bi wr.heap.size wr (wr.alloc (Obj.cells #[I Z j,I Z q] 185))):=qh (by go_grown);have BB:wr.heap.size<(wr.alloc (Obj.cells #[I Z j,I Z q] 185)).heap.size:=by rw[Be];omega
     generalize wr.alloc (Obj.cells #[I Z j,I Z q] 185)=W1 at *
     have A5:=(Am V.o).cell _ _ P;have A6:=(Am V.o).cell _ _ A0;have A7:=(Am V.o).cell _ _ f0;have A8:=(Am V.o).cell _ _ f1;have m0:W1.cell? ⟨wr.heap.size,0,N⟩=R (I Z j):=Q8 HZ.o rfl;have m1:W1.cell? ⟨wr.heap.size,1,N⟩=R (I Z q):=Q8 HZ.o rfl;clear P A0 f0 f1;(refine Z0 (λw'=>Bi W1.heap.size W1 w') (by kernel_rfl) (by kernel_rfl) (Ai _ _).drew ?_;(repeat(first|go_big_quiet_skip|(go_big_quiet_want;apply Exists.intro;refine⟨λw' J=> ?_, ?_⟩;(focus(have BC:=(Am J).cell _ _ A5;have BD:=(Am J).cell _ _ A6;have BE:=(Am J).cell _ _ A7;have BF:=(Am J).cell _ _ A8;have BG:=(Am J).cell _ _ m0;have BH:=(Am J).cell _ _ m1;go_simp;first|done|with_reducible rfl|(exact(Qju _ _ _ _ _).mono λe w3 ⟨he,hb⟩=>⟨by rw[he],Q0 J hb⟩)));simp only[Act.put,List.setIfInBounds_toArray,List.set_cons_zero,List.set_cons_succ];go_big_quiet_on)));refine wpQuiet_nil ?_;intro z F)
     have W:D (Bi wr.heap.size wr z):=qh (V.o.trans (F.mono (by omega)));have BI:=F.size;have AV:=(Am F).cell _ _ A5;have AW:=(Am F).cell _ _ A6;have AX:=(Am F).cell _ _ A7;have AY:=(Am F).cell _ _ A8;have AZ:=(Am F).cell _ _ m0;have B0:=(Am F).cell _ _ m1;clear A5 A6 A7 A8 m0 m1 F;cases q1:Q03 ((j:Int),(q:Int)) (C,E)with
     |false=>
      have HF:=qh q1;go_wp2_with fail
      go_roundw;case rel=>exact⟨q+1,by omega,by go_num,((G.o.kept W.o).eqL (by rw[A4.o,HF.o];simp)),H.o.trans (W.o.mono AD)⟩
      case measure=>simp[Bv];omega
     |true=>
      have HF:=qh q1;have B1:=qh (Q2d (t:=Qu) (x:=(((j:Int),(q:Int)),(C,E))) (Q6q (t:=(j:Int)) (a:=(q:Int)) (by unfold Qqm;omega) (by unfold Qqm;omega) HI.o.1 HI.o.2));go_wp2_with fail
      go_region_held3(λw'=>w'.cell? ⟨b,o,N⟩=R (A (R ⟨m,r,N⟩) n.length c)/\w'.cell? ⟨m,r+j * 5+4,N⟩=R (A (R ⟨K,M,N⟩) ws.length cw)/\w'.cell? ⟨K,M+q * 2,N⟩=R (I Z C)/\w'.cell? ⟨K,M+q * 2+1,N⟩=R (I Z E)/\w'.cell? ⟨wr.heap.size,0,N⟩=R (I Z j)/\w'.cell? ⟨wr.heap.size,1,N⟩=R (I Z q))
       (first|with_reducible exact HS.o|(refine Qpg (w:=z) ?_ AV AW AX AY AZ B0;go_grown))
       ((refine Yp _ rfl (.tmp 46) (.tmp 60) 269 rfl (t:=Qu) (v:=A pu L.length cu) (xs:=L) (ys:=[(((j:Int),(q:Int)),(C,E))]) rfl (by decide) w.heap.size 272 i0 _ 32 underlying269 AI AJ AK AL rfl (by decide) rfl rfl (G.o.kept (show Bi wr.heap.size wr _ from(W.o.drew).alloc W.o.size _)) ((Qqe.of_block (t:=Qu) (xs:=[(((j:Int),(q:Int)),(C,E))]) (B:=0) (g:=z.heap.size) (Bg z.drew _) (by omega) rfl rfl B1.o (by simp[Bp])).rd rfl) (by have:=AU.o;simp only[Dw];omega) (by simp;omega) ?_;intro v1 w1 AE X;have BJ:=qh X;have B2:=qh AE;have Y:=qh (Below.grown ((H.o.trans (W.o.mono AD)).drew.alloc (by simp;omega) _) X (by simp;omega) (λi hi=>(G.o.block i hi).1));have HS:D ((w1.cell? ⟨b,o,N⟩=R (A (R ⟨m,r,N⟩) n.length c)/\w1.cell? ⟨m,r+j * 5+4,N⟩=R (A (R ⟨K,M,N⟩) ws.length cw)/\w1.cell? ⟨K,M+q * 2,N⟩=R (I Z C)/\w1.cell? ⟨K,M+q * 2+1,N⟩=R (I Z E)/\w1.cell? ⟨wr.heap.size,0,N⟩=R (I Z j)/\w1.cell? ⟨wr.heap.size,1,N⟩=R (I Z q))):=qh (⟨(Am Y.o).cell _ _ f,(Am Y.o).cell _ _ U,(Am Y.o).cell _ _ A2,(Am Y.o).cell _ _ A3,(Q53 X (by simp;omega) (λe=>by have:=(G.o.block _ e).2;omega)).trans (by go_simp),(Q53 X (by simp;omega) (λe=>by have:=(G.o.block _ e).2;omega)).trans (by go_simp)⟩);clear AE X))
      go_wp2_with fail
      go_roundw;case rel=>exact⟨q+1,by omega,by go_num,B2.o.eqL (by rw[A4.o,HF.o];rfl),Y.o⟩
      case measure=>simp[Bv];omega
    ·have AF:q=ws.length:=by omega
     have HE:=qh AF;clear AF;go_wp2_with fail
     go_roundw;case rel=>exact⟨j+1,by omega,by go_num,G.o.eqL (by rw[AN.o,HE.o]),H.o⟩
     case measure=>simp[Bv];omega
  ·have AG:j=n.length:=by omega
   have HE:=qh AG;clear AG;go_wp2_with fail
   go_ret;exact⟨_,rfl,HO.o.eqL (by rw[HE.o,Qih]),O.o⟩
def Q4p(w:Qqt):Bool:=decide (0<w.1.2) && decide (0<w.2.2)
theorem Qci(n:List Qb):(Zv n).length=(Yk n).countP Q4p:=by
 unfold Zv;rw[List.countP_eq_length_filter];rfl
theorem Q7p{α:Type}{p:α->Bool}{xs:List α}{k:Nat}(h:k<xs.length):(xs.take (k+1)).countP p=(xs.take k).countP p+(if p xs[k]then 1 else 0):=by
 rw[An h,List.countP_append];simp[List.countP_cons]
theorem Qf2(w:Bh)(a b c d:Value)(T:TypeId):Bi w.heap.size w ((w.alloc (.cells #[a,b] T)).alloc (.cells #[c,d] T)):=by go_grown
theorem Qo2(w:Bh)(b o:Nat)(n:List Qb)(h:At Je w b o n)(X:n.length<=1000000)(O:(Qs n).length<=10000000):
  Bq prog 186 #[.pointer (R ⟨b,o,N⟩),.bool Bm] w λe w'=>e=.returned (I Z ((Zv n).length:Nat))/\Bi w.heap.size w w':=by
 have H:=qh h;have q:=qh X;have r:=qh O;have Y:=qh (Qci n);have s:(Yk n).length<=10000000:=by unfold Yk;rw[Fg];exact Au (Dx _ _) O
 clear h X O;go_enter func186,ntmps186;go_wp2_with(go_at_call 221;refine(Qgl _ _ _ _ H.o q.o r.o).mono ?_;rintro e w1 ⟨v,rfl,a,d⟩;have P:=qh a;have t:=qh d;clear a d;obtain⟨p,c,rfl,y,-⟩:=P.o.form)
 obtain⟨L,f⟩:∃L:List Qqt,L=Yk n:=⟨_,rfl⟩;rw[<-f]at P Y s y⊢;clear f;have z:=qh (P.o.rd rfl);go_loopw [5,7] (λu i wr=>∃(j:Nat),j<=L.length/\i=I Z j/\u=I Z ((L.take j).countP Q4p:Nat)/\D (Bi w1.heap.size w1 wr)) (λ_ i _=>L.length-(Bv i).toNat);case atStart=>exact⟨0,Ak _,rfl,by simp,Ai _ _⟩
 case round=>
  obtain⟨j,hj,rfl,rfl,B⟩:=hrel;have A0:=List.countP_le_length (p:=Q4p) (l:=L.take j);rw[Cj]at A0;by_cases g:j<L.length
  ·obtain⟨b1,o1,rfl,S⟩:=Rd.elem z.o j g
   have J:=qh (Q7p (p:=Q4p) g);generalize hx:L[j]=x at S J;obtain⟨⟨F,C⟩,⟨K,E⟩⟩:=x;have T:D (Q4p ((F,C),(K,E))=(decide (0<C) && decide (0<E))):=qh (rfl);obtain⟨⟨M,U,V,W⟩,k,ka,m,kb⟩:=S.link;simp only[Ty.sz,Bj]at M U V W;clear S hx;have M:=(Am B.o).cell _ _ M;have U:=(Am B.o).cell _ _ U;have V:=(Am B.o).cell _ _ V;have W:=(Am B.o).cell _ _ W;have k:=k.bd;have ka:=ka.bd;have m:=m.bd;have kb:=kb.bd;have A1:=Ac wr _ M;simp only at A1;have A3:(0:Int)<=j:=by omega
   have A4:(j:Int)<L.length:=by omega
   generalize (L.take j).countP Q4p=cnt at *
   cases q1:decide (0<E)with
   |false=>
    have G:D (Q4p ((F,C),(K,E))=Bm):=qh (by rw[T.o,q1];simp);go_wp2_with fail
    go_roundw;case rel=>exact⟨j+1,by omega,by go_num,by rw[J.o,G.o];rfl,B.o.trans ((Qf2 wr _ _ _ _ _).mono B.o.size)⟩
    case measure=>simp[Bv];omega
   |true=>
    cases q2:decide (0<C)with
    |false=>
     have G:D (Q4p ((F,C),(K,E))=Bm):=qh (by rw[T.o,q2];simp);cases q3:(F==0)
     all_goals
      go_wp2_with fail
      go_roundw;case rel=>exact⟨j+1,by omega,by go_num,by rw[J.o,G.o];rfl,B.o.trans ((Qf2 wr _ _ _ _ _).mono B.o.size)⟩
      case measure=>simp[Bv];omega
    |true=>
     have G:D (Q4p ((F,C),(K,E))=Bn):=qh (by rw[T.o,q1,q2];rfl);go_wp2_with fail
     go_roundw;case rel=>exact⟨j+1,by omega,by go_num,by rw[J.o,G.o];go_num,B.o.trans ((Qf2 wr _ _ _ _ _).mono B.o.size)⟩
     case measure=>simp[Bv];omega
  ·have A2:j=L.length:=by omega
   have HE:D ((L.take j).countP Q4p=L.countP Q4p):=qh (by rw[Ao (by omega)]);clear A2;go_wp2_with fail
   go_ret;exact⟨Qm (by rw[HE.o,Y.o]),Q0 t.o B.o⟩
def Q1v(x y:Qb):Int:=
 if aK x==9 && (aK y==10 && decide (((aD y).length:Int)<=aV x))then 8
 else if aK x==10 && (aK y==9 && decide (((aD x).length:Int)<=aV y))then 8
 else Yx (aK x) (aL x) (aK y) (aL y)
theorem Qna(w:Bh)(b o K o':Nat)(k l v:Int)(d:List Int)(ws:List Wd)(B H C:Int)(E:List Int)(J:List Wd)(h:At Q3 w b o (k,l,v,d,ws))(L:At Q3 w K o' (B,H,C,E,J)):
  Bq prog 184 #[.pointer (R ⟨b,o,N⟩),.pointer (R ⟨K,o',N⟩)] w λe w'=>e=.returned (I Z (Q1v (k,l,v,d,ws) (B,H,C,E,J)))/\Q0m w w':=by
 obtain⟨a,c,_,_,⟨f,g,i,j,-⟩,-,⟨-,T,-⟩,-⟩:=h.agent;obtain⟨m,n,_,_,⟨p,q,r,s,-⟩,-,⟨-,f2,-⟩,-⟩:=L.agent;unfold Bp at T f2;clear h L;have F:D (Q1v (k,l,v,d,ws) (B,H,C,E,J)=(if k==9 && (B==10 && decide ((E.length:Int)<=v))then 8 else if k==10 && (B==9 && decide ((d.length:Int)<=C))then 8 else Yx k l B H)):=qh (rfl);by_cases M:k=9
 ·subst M
  by_cases O:B=10
  ·subst O
   cases a3:decide ((E.length:Int)<=v)
   all_goals
    go_enter func184,ntmps184;go_wp2_with fail
    go_quiet(fail)
    go_wp2;try(go_quiet(fail))
    try go_wp2
    try(go_quiet((go_at_call 220;first|exact Yi (Qqc (Jz _ _ _ _ _)) (rfl)|exact Yh (Qqc (Jz _ _ _ _ _)) (rfl))))
    try go_wp2
    go_ret;exact⟨Qm (by rw[F.o,a3];rfl),by first|exact⟨_,rfl⟩|exact Q0m.more ⟨_,rfl⟩ _|exact Q0m.more (Q0m.more ⟨_,rfl⟩ _) _⟩
  ·have U:(B==10)=Bm:=by simp[O]
   have G:=qh U;go_enter func184,ntmps184;go_wp2_with fail
   go_quiet(fail)
   go_wp2;go_quiet(fail)
   go_wp2;go_quiet((go_at_call 220;first|exact Yi (Qqc (Jz _ _ _ _ _)) (rfl)|exact Yh (Qqc (Jz _ _ _ _ _)) (rfl)))
   go_wp2;go_ret;exact⟨Qm (by rw[F.o,G.o];rfl),Q0m.more (Q0m.more ⟨_,rfl⟩ _) _⟩
 ·have V:(k==9)=Bm:=by simp[M]
  by_cases P:k=10
  ·subst P
   by_cases S:B=9
   ·subst S
    cases a3:decide ((d.length:Int)<=C)
    all_goals
     go_enter func184,ntmps184;go_wp2_with fail
     go_quiet(fail)
     go_wp2;go_quiet(fail)
     go_wp2;try(go_quiet((go_at_call 220;first|exact Yi (Qqc (Jz _ _ _ _ _)) (rfl)|exact Yh (Qqc (Jz _ _ _ _ _)) (rfl))))
     try go_wp2
     go_ret;exact⟨Qm (by rw[F.o,a3];rfl),by first|exact⟨_,rfl⟩|exact Q0m.more ⟨_,rfl⟩ _|exact Q0m.more (Q0m.more ⟨_,rfl⟩ _) _⟩
   ·have W:(B==9)=Bm:=by simp[S]
    have G:=qh W;go_enter func184,ntmps184;go_wp2_with fail
    go_quiet(fail)
    go_wp2;go_quiet(fail)
    go_wp2;go_quiet((go_at_call 220;first|exact Yi (Qqc (Jz _ _ _ _ _)) (rfl)|exact Yh (Qqc (Jz _ _ _ _ _)) (rfl)))
    go_wp2;go_ret;exact⟨Qm (by rw[F.o,G.o];rfl),Q0m.more (Q0m.more ⟨_,rfl⟩ _) _⟩
  ·have X:(k==10)=Bm:=by simp[P]
   have G:=qh X;have Y:=qh V;go_enter func184,ntmps184;go_wp2_with fail
   go_quiet(fail)
   go_wp2;go_quiet(fail)
   go_wp2;go_quiet((go_at_call 220;first|exact Yi (Qqc (Jz _ _ _ _ _)) (rfl)|exact Yh (Qqc (Jz _ _ _ _ _)) (rfl)))
   go_wp2;go_ret;exact⟨Qm (by rw[F.o,G.o,Y.o];rfl),Q0m.more (Q0m.more ⟨_,rfl⟩ _) _⟩
theorem Q52(w:Bh)(b o b' o':Nat)(x y:Qo.den)(S:At Qo w b o x)(T:At Qo w b' o' y):
  Bq prog 97 #[.pointer (R ⟨b,o,N⟩),.pointer (R ⟨b',o',N⟩)] w λe w'=>e=.returned (.bool (Qqu Qo x y))/\Q0m w w':=by
 obtain⟨cs,_,r1,⟨_,_,rfl,l,_,_,rfl,⟨rfl,i0⟩,_,_,rfl,⟨_,_,rfl,⟨rfl,i1⟩,⟨rfl,i2⟩⟩,m⟩⟩:=S;obtain⟨t,_,r2,⟨_,_,rfl,n,_,_,rfl,⟨rfl,j0⟩,_,_,rfl,⟨_,_,rfl,⟨rfl,j1⟩,⟨rfl,j2⟩⟩,q⟩⟩:=T;obtain⟨d,rfl,l⟩:=Q04 l;obtain⟨d',rfl,n⟩:=Q04 n;obtain⟨p,rfl,m⟩:=Q04 m;obtain⟨p',rfl,q⟩:=Q04 q;obtain⟨E,u,⟨v,z⟩,F⟩:=x;obtain⟨K,yf,⟨yt,ya⟩,L⟩:=y;obtain⟨pc,kc,rfl,AL,A8,A1⟩:=(Yz l).gen;obtain⟨qc,kd,rfl,AM,A9,A2⟩:=(Yz n).gen;obtain⟨pr,kr,rfl,AN,AA,A3⟩:=(Yz m).gen;obtain⟨qr,ks,rfl,AO,AB,A4⟩:=(Yz q).gen;unfold Bp at A8 A9 AA AB;simp only[Cc,Bt]at *
 obtain⟨c0,c1,c2,c3,c4⟩:=Q4b r1;obtain⟨e0,e1,e2,e3,e4⟩:=Q4b r2;have AC:=qh A1;have AD:=qh A2;have AE:=qh A3;have AF:=qh A4;have A0:=λw=>Q2j i1 i2 j1 j2 w;clear l n m q A1 A2 A3 A4 r1 r2;by_cases q0:E.length=K.length;rotate_left
 ·have t0:((E.length:Int) !=(K.length:Int))=Bn:=by simp;omega
  have O:D (¬E=K):=qh (λe=>q0 (by rw[e]));clear q0;go_enter func97,ntmps97;go_wp2_with fail
  go_quiet(fail)
  go_wp2;go_ret;exact⟨Zi (by simp[O.o]),⟨_,rfl⟩⟩
 have t0:((E.length:Int) !=(K.length:Int))=Bm:=by simp[q0]
 have HL:=qh q0;clear q0;by_cases q1:u=yf;rotate_left
 ·have t1:(u !=yf)=Bn:=by simp[q1]
  have O:=qh q1;clear q1;go_enter func97,ntmps97;go_wp2_with fail
  go_quiet(fail)
  go_wp2;go_ret;exact⟨Zi (by simp[O.o]),⟨_,rfl⟩⟩
 have t1:(u !=yf)=Bm:=by simp[q1]
 have AG:=qh q1;clear q1;by_cases U:v=yt/\z=ya;rotate_left
 ·have Y:(v==yt && z==ya)=Bm:=by rw[Es];intro a;apply U;simpa using a
  rw[Y]at A0;clear Y;have O:=qh U;clear U;go_enter func97,ntmps97;go_wp2_with fail
  go_quiet(fail)
  go_wp2;go_ret;exact⟨Zi (by have:=O.o;simp;intro _ _ h3 h4;exact absurd ⟨h3,h4⟩ this),⟨_,rfl⟩⟩
 have Y:(v==yt && z==ya)=Bn:=by simpa using U
 rw[Y]at A0;clear Y;have A5:=qh U;clear U;by_cases c:F.length=L.length;rotate_left
 ·have t3:((F.length:Int) !=(L.length:Int))=Bn:=by simp;omega
  have O:D (¬F=L):=qh (λe=>c (by rw[e]));clear c;go_enter func97,ntmps97;go_wp2_with fail
  go_quiet(fail)
  go_wp2;go_ret;exact⟨Zi (by simp[O.o]),⟨_,rfl⟩⟩
 have t3:((F.length:Int) !=(L.length:Int))=Bm:=by simp[c]
 have A6:=qh c;clear c;go_enter func97,ntmps97;go_wp2_with fail
 go_quiet(fail)
 go_wp2;have AH:D (Q0m w (w.drewN nq)):=qh (⟨_,rfl⟩);generalize w.drewN nq=w0 at *
 clear i0 i1 i2 j0 j1 j2 c1 c2 c3 e1 e2 e3 t0 t1 A0 t3;go_loopw [5] (λi wr=>∃k:Nat,k<=E.length/\i=I Z k/\D (E.take k=K.take k)/\D (Q0m w wr)) (λi _=>E.length-(Bv i).toNat);case atStart=>exact⟨0,Ak _,rfl,rfl,AH⟩
 case round=>
  obtain⟨k,hk,rfl,V,B⟩:=hrel;have AP:=(Am B.o.below).cell _ _ c0;have AQ:=(Am B.o.below).cell _ _ e0;by_cases G:k<E.length
  ·have P:k<K.length:=by rw[<-HL.o];exact G
   obtain⟨b1,o1,rfl,cs,r,H,W⟩:=AC.o k G;obtain⟨b2,o2,rfl,t,s,J,X⟩:=AD.o k P;generalize hxk:E[k]=x at W;generalize hyk:K[k]=y at X;have f:=qh hxk;have g:=qh hyk;clear hxk hyk;have HA:D (At Q3 w b1 (o1+k * 5) x):=qh (⟨cs,r,H,W⟩);have A7:D (At Q3 w b2 (o2+k * 5) y):=qh (⟨t,s,J,X⟩);clear r s H J W X c0 e0 c4 e4;by_cases C:x=y
   ·have M:=qh C;clear C
    go_wp2_with fail
    go_quiet((go_at_call 148;exact Calls.quiet_of (Qck _ _ _ _ _ _ _ (HA.o.kept (Am (Q6 B.o.below _))) (A7.o.kept (Am (Q6 B.o.below _))) M.o)))
    go_wp2;go_roundw;case rel=>exact⟨k+1,by omega,by go_num,Yb G P V.o (by rw[f.o,g.o,M.o]),Q0m.more B.o _⟩
    case measure=>simp[Bv];omega
   ·have h:=Y2 G P (by rw[f.o,g.o];exact C)
    have M:=qh h;have AI:=qh C;clear C h;go_wp2_with fail
    go_quiet((go_at_call 148;exact Calls.quiet_of (Qe7 _ _ _ _ _ _ _ (HA.o.kept (Am (Q6 B.o.below _))) (A7.o.kept (Am (Q6 B.o.below _))) AI.o)))
    go_wp2;go_ret;exact⟨Zi (by simp[M.o]),Q0m.more B.o _⟩
  ·have S:E.length<=k:=by omega
   have T:K.length<=k:=by rw[<-HL.o];omega
   have HN:=qh (Jc V.o S T);clear c0 e0;go_wp2;have AJ:=qh B.o;clear B V S T;go_loopw [6] (λi wr=>∃k:Nat,k<=F.length/\i=I Z k/\D (F.take k=L.take k)/\D (Q0m w wr)) (λi _=>F.length-(Bv i).toNat);case atStart=>exact⟨0,Ak _,rfl,rfl,AJ⟩
   case round=>
    obtain⟨k,hk,rfl,V,B⟩:=hrel;have AR:=(Am B.o.below).cell _ _ c4;have AS:=(Am B.o.below).cell _ _ e4;by_cases G:k<F.length
    ·have P:k<L.length:=by rw[<-A6.o];exact G
     obtain⟨b1,o1,rfl,cs,r,H,W⟩:=AE.o k G;obtain⟨b2,o2,rfl,t,s,J,X⟩:=AF.o k P;generalize hxk:F[k]=x at W;generalize hyk:L[k]=y at X;have f:=qh hxk;have g:=qh hyk;clear hxk hyk r s;obtain⟨_,_,rfl,⟨rfl,m0⟩,⟨rfl,m1⟩⟩:=W;obtain⟨_,_,rfl,⟨rfl,n0⟩,⟨rfl,n1⟩⟩:=X;simp only[Cc,Bt]at H J;have hq:=λw=>Qc4 m0 m1 n0 n1 w;have H:=H.kept (Am B.o.below);have J:=J.kept (Am B.o.below);simp only[Ty.sz,Bj]at H J;obtain⟨f0,f1⟩:=Qcy H;obtain⟨g0,g1⟩:=Qcy J;clear H J m0 m1 n0 n1 c4 e4;by_cases C:x=y
     ·have j:(x.1==y.1 && x.2==y.2)=Bn:=by simp[C]
      have M:=qh C;clear C;rw[j]at hq;clear j;go_wp2;go_quiet(fail)
      go_wp2;go_roundw;case rel=>exact⟨k+1,by omega,by go_num,Yb G P V.o (by rw[f.o,g.o,M.o]),Q0m.more B.o _⟩
      case measure=>simp[Bv];omega
     ·have j:(x.1==y.1 && x.2==y.2)=Bm:=by rw[Es];intro a;apply C;simp only[Bool.and_eq_true,beq_iff_eq]at a;exact Prod.ext a.1 a.2
      have h:=Y2 G P (by rw[f.o,g.o];exact C);have M:=qh h;clear C h;rw[j]at hq;clear j;go_wp2;go_quiet(fail)
      go_wp2;go_ret;exact⟨Zi (by simp[M.o]),Q0m.more B.o _⟩
    ·have S:F.length<=k:=by omega
     have T:L.length<=k:=by rw[<-A6.o];omega
     have AK:=qh (Jc V.o S T);go_wp2;go_ret;exact⟨Zi (by simp[AG.o,A5.o.1,A5.o.2,HN.o,AK.o]),B.o⟩
theorem Q2l(w:Bh)(b o b' o':Nat)(x y:Qqb)(T:At Qc w b o x)(U:At Qc w b' o' y):
  Bq prog 98 #[.pointer (R ⟨b,o,N⟩),.pointer (R ⟨b',o',N⟩)] w λe w'=>e=.returned (.bool (Qqu Qc x y))/\Q0m w w':=by
 obtain⟨x0,x1,x2,x3,x4⟩:=x;obtain⟨y0,y1,M,O,y4⟩:=y;obtain⟨px,cx,pl,cl,pc,cc,⟨c0,c1,c2,c3,c4⟩,⟨i0,i1⟩,⟨-,lx,hx⟩,⟨-,ll,hl⟩,⟨-,lc,hc⟩⟩:=T.worker;obtain⟨qx,dx,ql,dl,qc,dc,⟨e0,e1,e2,e3,e4⟩,⟨j0,j1⟩,⟨-,mx,gx⟩,⟨-,ml,gl⟩,⟨-,mc,gc⟩⟩:=U.worker;unfold Bp at lx ll lc mx ml mc;have HX:=qh hx;have HL:=qh hl;have P:=qh hc;have GX:=qh gx;have GL:=qh gl;have S:=qh gc;clear hx hl hc gx gl gc T U;by_cases q0:x0=y0;rotate_left
 ·have t0:(x0 !=y0)=Bn:=by simp[q0]
  have E:=qh q0;clear q0;go_enter func98,ntmps98;go_wp2_with fail
  go_quiet(fail)
  go_wp2;go_ret;exact⟨Zi (by simp[E.o]),⟨_,rfl⟩⟩
 have t0:(x0 !=y0)=Bm:=by simp[q0]
 have A2:=qh q0;clear q0;by_cases q1:x1=y1;rotate_left
 ·have t1:(x1 !=y1)=Bn:=by simp[q1]
  have E:=qh q1;clear q1;go_enter func98,ntmps98;go_wp2_with fail
  go_quiet(fail)
  go_wp2;go_ret;exact⟨Zi (by simp[E.o]),⟨_,rfl⟩⟩
 have t1:(x1 !=y1)=Bm:=by simp[q1]
 have A3:=qh q1;clear q1;by_cases z:x4=y4;rotate_left
 ·have E:=qh z;clear z
  go_enter func98,ntmps98;go_wp2_with fail
  go_quiet((go_at_call 149;first|exact Yi (Vq _ _ _ _ _ (P.o.drewN _) (S.o.drewN _)) (Qr7 (Vh E.o))|exact Yh (Vq _ _ _ _ _ (P.o.drewN _) (S.o.drewN _)) (Qr7 (Vh E.o))))
  go_wp2;go_ret;exact⟨Zi (by simp[E.o]),⟨_,rfl⟩⟩
 have V:=qh z;clear z;by_cases d:x2.length=M.length;rotate_left
 ·have t3:((x2.length:Int) !=(M.length:Int))=Bn:=by simp;omega
  have E:D (¬x2=M):=qh (λe=>d (by rw[e]));clear d;go_enter func98,ntmps98;go_wp2_with fail
  go_quiet((go_at_call 149;first|exact Yi (Vq _ _ _ _ _ (P.o.drewN _) (S.o.drewN _)) (Qr7 (Ju V.o))|exact Yh (Vq _ _ _ _ _ (P.o.drewN _) (S.o.drewN _)) (Qr7 (Ju V.o))))
  go_wp2;go_ret;exact⟨Zi (by simp[E.o]),⟨_,rfl⟩⟩
 have t3:((x2.length:Int) !=(M.length:Int))=Bm:=by simp[d]
 have A0:=qh d;clear d;by_cases f:x3.length=O.length;rotate_left
 ·have t4:((x3.length:Int) !=(O.length:Int))=Bn:=by simp;omega
  have E:D (¬x3=O):=qh (λe=>f (by rw[e]));clear f;go_enter func98,ntmps98;go_wp2_with fail
  go_quiet((go_at_call 149;first|exact Yi (Vq _ _ _ _ _ (P.o.drewN _) (S.o.drewN _)) (Qr7 (Ju V.o))|exact Yh (Vq _ _ _ _ _ (P.o.drewN _) (S.o.drewN _)) (Qr7 (Ju V.o))))
  go_wp2;go_ret;exact⟨Zi (by simp[E.o]),⟨_,rfl⟩⟩
 have t4:((x3.length:Int) !=(O.length:Int))=Bm:=by simp[f]
 have A1:=qh f;clear f;go_enter func98,ntmps98;go_wp2_with fail
 go_quiet((go_at_call 149;first|exact Yi (Vq _ _ _ _ _ (P.o.drewN _) (S.o.drewN _)) (Qr7 (Ju V.o))|exact Yh (Vq _ _ _ _ _ (P.o.drewN _) (S.o.drewN _)) (Qr7 (Ju V.o))))
 go_wp2;have A4:D (Q0m w (w.drewN nq)):=qh (⟨_,rfl⟩);generalize w.drewN nq=w0 at *
 clear i0 i1 j0 j1 c0 c1 c4 e0 e1 e4 t0 t1 t3 t4;go_loopw [5] (λi wr=>∃k:Nat,k<=x2.length/\i=I Z k/\D (x2.take k=M.take k)/\D (Q0m w wr)) (λi _=>x2.length-(Bv i).toNat);case atStart=>exact⟨0,Ak _,rfl,rfl,A4⟩
 case round=>
  obtain⟨k,hk,rfl,c,C⟩:=hrel;have cw:=(Am C.o.below).cell _ _ c2;have ew:=(Am C.o.below).cell _ _ e2;by_cases L:k<x2.length
  ·have W:k<M.length:=by rw[<-A0.o];exact L
   obtain⟨b1,o1,rfl,X⟩:=Rd.elem (HX.o.drew C.o) k L;obtain⟨b2,o2,rfl,Y⟩:=Rd.elem (GX.o.drew C.o) k W;generalize hxk:x2[k]=x at X;generalize hyk:M[k]=y at Y;have g:=qh hxk;have h:=qh hyk;clear hxk hyk;obtain⟨F,G⟩:=x;obtain⟨H,J⟩:=y;obtain⟨f0,f1,j,l⟩:=X.word;obtain⟨g0,g1,m,n⟩:=Y.word;simp only[Ty.sz,Bj]at f0 f1 g0 g1;have p:=λw=>Qc4 j l m n w;clear X Y j l m n;by_cases B:F=H/\G=J
   ·have K:(F==H && G==J)=Bn:=by simp[B]
    have a:D (((F,G):Int×Int)=(H,J)):=qh (by rw[B.1,B.2]);clear B;rw[K]at p;clear K;go_wp2;go_quiet(fail)
    go_wp2;go_roundw;case rel=>exact⟨k+1,by omega,by go_num,Yb L W c.o (by rw[g.o,h.o,a.o]),Q0m.more C.o _⟩
    case measure=>simp[Bv];omega
   ·have K:(F==H && G==J)=Bm:=by rw[Es];intro hh;apply B;simpa using hh
    have q:((F,G):Int×Int)≠(H,J):=λe=>B (Prod.mk.inj e);have r:=Y2 L W (by rw[g.o,h.o];exact q);have a:=qh r;clear B q r;rw[K]at p;clear K;go_wp2;go_quiet(fail)
    go_wp2;go_ret;exact⟨Zi (by simp[a.o]),Q0m.more C.o _⟩
  ·have T:x2.length<=k:=by omega
   have U:M.length<=k:=by rw[<-A0.o];omega
   have A5:=qh (Jc c.o T U);go_wp2;have A6:=qh C.o;clear C c T U cw ew;go_loopw [6] (λi wr=>∃k:Nat,k<=x3.length/\i=I Z k/\D (x3.take k=O.take k)/\D (Q0m w wr)) (λi _=>x3.length-(Bv i).toNat);case atStart=>exact⟨0,Ak _,rfl,rfl,A6⟩
   case round=>
    obtain⟨k,hk,rfl,c,C⟩:=hrel;have cw:=(Am C.o.below).cell _ _ c3;have ew:=(Am C.o.below).cell _ _ e3;by_cases L:k<x3.length
    ·have W:k<O.length:=by rw[<-A1.o];exact L
     obtain⟨b1,o1,rfl,X⟩:=Rd.elem (HL.o.drew C.o) k L;obtain⟨b2,o2,rfl,Y⟩:=Rd.elem (GL.o.drew C.o) k W;generalize hxk:x3[k]=x at X;generalize hyk:O[k]=y at Y;have g:=qh hxk;have h:=qh hyk;clear hxk hyk;obtain⟨⟨F,G⟩,s,t⟩:=x;obtain⟨⟨H,J⟩,u,v⟩:=y;obtain⟨⟨f0,f1,f2,f3⟩,j,l,m2,m3⟩:=X.link;obtain⟨⟨g0,g1,g2,g3⟩,m,n,n2,n3⟩:=Y.link;simp only[Ty.sz,Bj]at f0 f1 f2 f3 g0 g1 g2 g3;have p:=λw=>Qgw j l m2 m3 m n n2 n3 w;clear X Y j l m2 m3 m n n2 n3;by_cases B:F=H/\G=J/\s=u/\t=v
     ·have K:(F==H && G==J && s==u && t==v)=Bn:=by simp[B]
      have a:D ((((F,G),s,t):Qqt)=((H,J),u,v)):=qh (by rw[B.1,B.2.1,B.2.2.1,B.2.2.2]);clear B;rw[K]at p;clear K;go_wp2;go_quiet(fail)
      go_wp2;go_roundw;case rel=>exact⟨k+1,by omega,by go_num,Yb L W c.o (by rw[g.o,h.o,a.o]),Q0m.more C.o _⟩
      case measure=>simp[Bv];omega
     ·have K:(F==H && G==J && s==u && t==v)=Bm:=by rw[Es];intro hh;apply B;simpa[and_assoc]using hh
      have q:(((F,G),s,t):Qqt)≠((H,J),u,v):=λe=>by simp only[Prod.mk.injEq]at e;exact B ⟨e.1.1,e.1.2,e.2.1,e.2.2⟩
      have r:=Y2 L W (by rw[g.o,h.o];exact q);have a:=qh r;clear B q r;rw[K]at p;clear K;go_wp2;go_quiet(fail)
      go_wp2;go_ret;exact⟨Zi (by simp[a.o]),Q0m.more C.o _⟩
    ·have T:x3.length<=k:=by omega
     have U:O.length<=k:=by rw[<-A1.o];omega
     have A7:=qh (Jc c.o T U);go_wp2;go_ret;exact⟨Zi (by simp[A2.o,A3.o,V.o,A5.o,A7.o]),C.o⟩
end Go.Proofs.YthbpkpnioaniiaaGreat
