import Derived.Test.YtcjngpfigpglfaaGreatDoorP03
set_option maxHeartbeats 0
set_option maxRecDepth 100000
set_option linter.all false
namespace Go.Proofs.YtcjngpfigpglfaaGreatDoor
open Go.RowKit Go.Proofs.Tryz
open Go.Value renaming int->I,slice->A
open Go.IntKind renaming i64->Z
open Option renaming none->N,some->R
open OC(oC)
open OR(oR)
open JN(jN)
open Bool renaming true->Bn,false->Bm,eq_false_iff->Fk,and_eq_true->Bi
open Go renaming Calls->Bv,maxLen->Bu,info_parts->Ck,heap_alloc_new->Bg,World->Bh
open Go.Obj renaming cells->Gh
open Go.RowKit renaming intOf->By,Below->Bp
open List renaming countP_le_length->Dn,length_take->Cf,range->Bz,range_succ->En,filter_append->Hj,map_append->Ep,length_map->De,length_filter_le->Eo,length_range->Hn,length_singleton->Dg,cons_append->Bw,nil_append->Bs,length_replicate->Eh
open Nat renaming not_lt_zero->Dh,reduceAdd->Bj,zero_add->Cg
def Rd.elemW{w p c}{xs:List Qxb}(h:Rd (.slice Qh) w [A p xs c] xs)(i:Nat)(B):∃b o,p=R ⟨b,o,N⟩/\At Qh w b (o+i * 5) xs[i]:=by
 obtain⟨b,o,rfl,C⟩:=Rd.elem h i B;exact⟨b,o,rfl,C⟩
theorem Q6d{w b o}(p:Ye)(h:At Qv w b o p)(hz:(Z8 (pM p)).length+(Jd (pW p)).length<=10000000)(A0:(Qr (pW p)).length<=10000000):
  Bv prog 26 #[(b,o)] w (oR w (Jw p)):=by
 have A1:=qh h;obtain⟨P,V⟩:∃P,P=p:=⟨_,rfl⟩;obtain⟨m,B,S⟩:=p;obtain⟨A2,B2,B3,⟨c5,c6⟩,ia,⟨hc,hm,A7⟩⟩:=h.pool;have AI:=qh A2;have A8:=D (pM P=m) (by rw[V];rfl);have A9:=D (pW P=B) (by rw[V];rfl);have AJ:=D (pA P=S) (by rw[V];rfl);rw[<-V]at A1 hz A0⊢;have HZ:=qh hz;have AK:=qh A0;obtain⟨cs,f,⟨g,k⟩,xs⟩:=m;obtain⟨_,_,px,cx,⟨-,-,-,-,c4⟩,-,-,⟨x1,x2,AL⟩⟩:=A2.mem;unfold Bu at hm x2;have HC:=qh A7;have ia:=ia.bd;clear A7 h A2 hz A0 V AL;have HV:Hd (Jw P=((Qxi B 1 4 && xs.length==0) && (B.all (Y4 B) && ((((B.countP Qz:Nat):Int)==S) && Q14 (cs,f,(g,k),xs) (Jd B) (Qr B))))):=by show Jw P=_;simp only[Jw,A8.o,A9.o,AJ.o];rfl
 by_cases T:Qxi B 1 4=Bn/\xs.length=0;rotate_left
 ·have G:=D (Jw P=Bm) (by
   rw[HV.o];rcases Decidable.not_and_iff_or_not.1 T with h|h
   ·rw[show Qxi B 1 4=Bm by simpa using h];rfl
   have:(xs.length==0)=Bm:=by simpa using h
   rw[this];simp)
  cases J:Qxi B 1 4 with
  |false=>
   clear T;go_enter func26,ntmps26;go_wp2_with(go_at_call 53;refine jX (Jy _ _ _) ?_;rw[J])
   go_ret;exact⟨Q2 G.o.symm,Ai _ _⟩
  |true=>
   have r:decide (0<xs.length)=Bn:=by simp[J]at T;simp;exact Bc.2 T
   have AA:decide (0<(xs:Int))=Bn:=by simp at r⊢;exact r
   clear T;go_enter func26,ntmps26;go_wp2_with(go_at_call 53;refine jX (Jy _ _ _) ?_;rw[J])
   go_ret;exact⟨Q2 G.o.symm,Ai _ _⟩
 obtain⟨J,s⟩:=T;have AB:=D (Jw P=(B.all (Y4 B) && ((((B.countP Qz:Nat):Int)==S) && Q14 (cs,f,(g,k),xs) (Jd B) (Qr B)))) (by rw[HV.o,J,s];rfl);have r:decide (0<xs.length)=Bm:=by simp[s]
 have AA:decide (0<(xs:Int))=Bm:=by simp[s]
 have AM:=Qj.1 J;have B4:B.length<=4:=by omega
 have B5:1<=B.length:=by omega
 have B6:=Q2b (n:=B) (by omega);clear AM HV;go_enter func26,ntmps26;go_wp2_with(go_at_call 53;refine jX (Jy _ _ _) ?_;rw[J])
 clear J r AA s;go_loopw [4,5] (λu i wr=>∃(j:Nat),j<=B/\i=I Z j/\u=I Z ((B.take j).countP Qz:Nat)/\Hd (∀(q:Nat) (t:q<B),q<j->Y4 B B[q]=Bn)/\w=wr) (λ_ i _=>B.length-(By i).toNat);case atStart=>exact⟨0,Ak _,rfl,by simp,λq _ h=>absurd h (Dh _),rfl⟩
 obtain⟨j,hj,rfl,rfl,HK,rfl⟩:=hrel;by_cases A3:j<B
 ·obtain⟨b1,o1,rfl,y⟩:=Rd.elemW HC j A3
  have AN:=qh (As A3);have AO:=qh (Q33 (p:=Qz) A3);have AC:=Dn (p:=Qz) (l:=B.take j);rw[Cf]at AC;generalize hx:B[j]=x at y;obtain⟨E,K,ys,C,L⟩:=x;have HX:=qh hx;have HA:=qh y;obtain⟨py,cy,pl,cl,pc,cn,⟨e0,e1,e2,e3,e4⟩,⟨ip,iv⟩,⟨-,y2,-⟩,⟨-,l2,-⟩,⟨-,n2,AD⟩⟩:=y.worker;have W:=qh AD;have X:=qh n2;unfold Bu at y2 l2;clear y hx AD n2;generalize hcn:(B.take j).countP Qz=Qxj at *
  have B7:=qh hcn;clear hcn;have G:=D (Y4 B (E,K,ys,C,L)=Bm->Jw P=Bm) (λhf=>by rw[AB.o,Q8e AN (by rw[HX.o];exact hf)];rfl);have U:=D (Y4 B (E,K,ys,C,L)=((Qxi E 1 4 && (Qxi K 0 ((B:Int)-1) && (Vj L && decide (C.length<=1500)))) && (E==1||(ys.length==0 && C.length==0)))) (by simp only[Y4,wP,wV,wX,wL,wC];rfl);cases q0:Qxi E 1 4 with
  |false=>
   go_wp2_with(go_at_call 53;refine jX (Jy _ _ _) ?_;rw[q0])
   go_ret;exact⟨Q2 (G.o (by rw[U.o,q0];rfl)).symm,Ai _ _⟩
  |true=>
   cases q1:Qxi K 0 ((B:Int)-1)with
   |false=>
    go_wp2_with(go_at_call 53;refine jX (Jy _ _ _) ?_;first|rw[q0]|rw[q1])
    go_ret;exact⟨Q2 (G.o (by rw[U.o,q0,q1];rfl)).symm,Ai _ _⟩
   |true=>
    cases q2:Vj L with
    |false=>
     go_wp2_with(first|(go_at_call 53;refine jX (Jy _ _ _) ?_;first|rw[q0]|rw[q1])|(go_at_call 54;refine jX (Q6c W X) ?_;rw[q2]))
     go_ret;exact⟨Q2 (G.o (by rw[U.o,q0,q1,q2];rfl)).symm,Ai _ _⟩
    |true=>
     by_cases q3:C.length<=1500;rotate_left
     ·have AP:decide (1500<(C:Int))=Bn:=by simp;omega
      have A4:decide (C.length<=1500)=Bm:=by simp;omega
      go_wp2_with(first|(go_at_call 53;refine jX (Jy _ _ _) ?_;first|rw[q0]|rw[q1])|(go_at_call 54;refine jX (Q6c W X) ?_;rw[q2]))
      go_ret;exact⟨Q2 (G.o (by rw[U.o,q0,q1,q2,A4];rfl)).symm,Ai _ _⟩
     have AP:decide (1500<(C:Int))=Bm:=by simp;omega
     have A4:decide (C.length<=1500)=Bn:=by simp;omega
     by_cases H:E=1\/(ys.length=0/\C.length=0);rotate_left
     ·have B8:(E !=1)=Bn:=by simp;exact λe=>H (.inl e)
      have z:=D (Y4 B (E,K,ys,C,L)=Bm) (by
       rw[U.o];have Y:(E==1)=Bm:=by simp;exact λe=>H (.inl e)
       have c:(ys.length==0 && C.length==0)=Bm:=by rw[Fk];intro hh;simp only[Bi,beq_iff_eq]at hh;exact H (.inr hh)
       rw[Y,c];simp)
      by_cases d:ys.length=0
      ·have M:decide (0<ys.length)=Bm:=by simp[d]
       have AE:decide (0<(ys:Int))=Bm:=by simp[d]
       have q6:¬C.length=0:=λe=>H (.inr ⟨d,e⟩);have B9:decide (0<C.length)=Bn:=by simp only[decide_eq_true_eq];omega
       have BA:decide (0<(C:Int))=Bn:=by simp only[decide_eq_true_eq];omega
       clear H d q6;go_wp2_with(first|(go_at_call 53;refine jX (Jy _ _ _) ?_;first|rw[q0]|rw[q1])|(go_at_call 54;refine jX (Q6c W X) ?_;rw[q2]))
       go_ret;exact⟨Q2 (G.o z.o).symm,Ai _ _⟩
      have M:decide (0<ys.length)=Bn:=by simp only[decide_eq_true_eq];omega
      have AE:decide (0<(ys:Int))=Bn:=by simp only[decide_eq_true_eq];omega
      clear H d;go_wp2_with(first|(go_at_call 53;refine jX (Jy _ _ _) ?_;first|rw[q0]|rw[q1])|(go_at_call 54;refine jX (Q6c W X) ?_;rw[q2]))
      go_ret;exact⟨Q2 (G.o z.o).symm,Ai _ _⟩
     have z:=D (Y4 B (E,K,ys,C,L)=Bn) (by
      rw[U.o,q0,q1,q2,A4];rcases H with h|⟨Y,c⟩
      ·rw[h];rfl
      rw[Y,c];simp)
     have M:(E !=1)=Bm\/(decide (0<ys.length)=Bm/\decide (0<C.length)=Bm/\decide (0<(ys:Int))=Bm/\decide (0<(C:Int))=Bm):=by
      rcases H with h|⟨Y,c⟩
      ·left;simp[h]
      right;simp[Y,c]
     cases q7:Qz (E,K,ys,C,L)
     all_goals
      rcases M with M|⟨M,AE,q5c,q5d⟩
      all_goals
       clear H;cases hph:(E !=1)
       all_goals
        first
         |(exfalso;rw[hph]at M;simp at M;done)
         |skip
        go_wp2_with(first|(go_at_call 53;refine jX (Jy _ _ _) ?_;first|rw[q0]|rw[q1])|(go_at_call 54;refine jX (Q6c W X) ?_;rw[q2])|(go_at_call 55;refine jX (Qqa HA) ?_;rw[q7]))
        all_goals
         go_roundw;case rel=>exact⟨j+1,by omega,by go_num,(by rw[AO.o,HX.o,q7];first|rfl|(simp;done)),λq t BB=>(by
          by_cases AQ:q=j
          ·subst AQ;rw[HX.o];exact z.o
          exact HK.o q t (by omega)),trivial⟩
         simp[By];omega
 have AR:B<=j:=by omega
 have AS:=D (B.all (Y4 B)=Bn) (Q8w λq t=>HK.o q t (by omega));have AT:=D ((B.take j).countP Qz=B.countP Qz) (by rw[Ao AR]);rw[AT.o];have AF:=D (Jw P=((((B.countP Qz:Nat):Int)==S) && Q14 (cs,f,(g,k),xs) (Jd B) (Qr B))) (by rw[AB.o,AS.o];rfl);have AC:=Dn (p:=Qz) (l:=B);generalize hcn:B.countP Qz=Qxj at *
 clear hcn;cases q0:((Qxj:Int)==S)with
 |false=>
  go_wp2
  go_quiet(fail)
  go_wp2;go_ret;exact⟨Q2 (by rw[AF.o,q0];rfl),Q8 (Ai _ _) _⟩
 |true=>
  have AU:=D ((Jd (pW P)).length<=100000000) (by have:=HZ.o;omega);have AG:=D ((Qr (pW P)).length<=100000000) (by have:=AK.o;omega);go_wp2_with fail
  go_region_held3(λw'=>w'.cell? (b,o+6)=R (I Z S))
   ((refine Qwf (w:=w) ?_ c6;first|exact AH.o|exact A5.o|exact A6.o|go_grown))
   (first|((go_at_call 57;refine(Qua w.drew b o P (A1.o.kept ⟨λa v h=>h⟩) AU).mono ?_;rintro e w1 ⟨vh,rfl,O,F⟩;obtain⟨AV,AW,rfl,-,-⟩:=O.form;have AX:=qh O;have A6:=D (w,w1) (Q0 (Ai w w).drew F);have BC:=qh F;clear O F))|((go_at_call 58;refine(Qlv w1 b o P (A1.o.kb A6) AG).mono ?_;rintro e w2 ⟨vr,rfl,O,F⟩;obtain⟨AY,AZ,rfl,-,-⟩:=O.form;have B0:=qh O;have A5:=qh (Q0 A6 F);have B1:=qh F;clear O F))|((go_at_call 56;refine jR (Qvh w2 b o (cs,f,(g,k),xs) (Jd (pW P)) (Qr (pW P)) AV AY AW AZ (AI.o.kb A5) ((AX.o.kept B1).rd rfl) (B0.o.rd rfl) (by have:=HZ.o;rw[A8.o]at this;exact this) AG) λw3 F=> ?_;have AH:=qh (Q0 A5 F);clear F)))
  go_wp2;go_ret;exact⟨Q2 (by rw[AF.o,q0,A9.o];rfl),AH.o⟩
def Qkl{w}(p0 H)(bk:List Qy0){b o}(p:Ye)(J:Rd (.slice Jl) w [A p0 bk H] bk)(K:bk<=Bu)(h:At Qv w b o p)(L:(Z8 (pM p)).length+(Jd (pW p)).length<=10000000)(M:(Qr (pW p)).length<=10000000):
  Bv prog 59 #[A p0 bk H,.pointer (R ⟨b,o,N⟩)] w λe w'=>e=.returned (I Z (if Q0s bk && Jw p then 0 else 1))/\(w,w'):=by
 have E:=qh J;have O:=qh h;have P:=qh L;have S:=qh M;have F:=qh K;clear J h L M K;cases q0:Q0s bk with
 |false=>
  go_enter func59,ntmps59;go_wp2_with(go_at_call 107;refine jR (Qiv E F) λw1 B=> ?_;rw[q0];have C:=qh B;clear B)
  go_ret;exact⟨rfl,C.o⟩
 |true=>
  cases q1:Jw p with
  |false=>
   go_enter func59,ntmps59;go_wp2_with(first|(go_at_call 107;refine jR (Qiv E F) λw1 B=> ?_;rw[q0];have C:=qh B;clear B)|(go_at_call 26;refine jR (Q6d _ (O.o.kb C) P S) λw2 B=> ?_;rw[q1];have G:=qh B;clear B))
   go_ret;exact⟨rfl,Q0 C G⟩
  |true=>
   go_enter func59,ntmps59;go_wp2_with(first|(go_at_call 107;refine jR (Qiv E F) λw1 B=> ?_;rw[q0];have C:=qh B;clear B)|(go_at_call 26;refine jR (Q6d _ (O.o.kb C) P S) λw2 B=> ?_;rw[q1];have G:=qh B;clear B))
   go_ret;exact⟨rfl,Q0 C G⟩
theorem Q8i{p j}:((Bz (j+1)).filter λ(k:Nat)=>wP (Q3 p k) !=4).map (λ(k:Nat)=>(k:Int))=((Bz j).filter λ(k:Nat)=>wP (Q3 p k) !=4).map (λ(k:Nat)=>(k:Int))++(if wP (Q3 p j) !=4 then [(j:Int)]else []):=by
 rw[En,Hj,Ep];congr 1
 cases h:(wP (Q3 p j) !=4)<;>simp[h]
def Qvc{w b o}(p:Ye)(h:At Qv w b o p)(T:(pW p).length<=1000000):
  Bv prog 91 #[(b,o)] w λe w'=>∃v,e=.returned v/\Qxu .int 2 w w' v (Q2x p)/\(w,w'):=by
 obtain⟨P,K⟩:∃P,P=p:=⟨_,rfl⟩;obtain⟨m,C,ac⟩:=p;obtain⟨-,A4,A5,⟨U,-⟩,-,⟨hc,l,V⟩⟩:=h.pool;have W:=D (pW P=C) (by rw[K];rfl);have T:C.length<=1000000:=T;rw[<-K];have n:=qh V;have q:=Ac w _ U;simp only at q;clear V h K l;obtain⟨r,s,y,z,A0⟩:=Ck Q2v;go_enter func91,ntmps91;go_wp2_with fail
 have X:=qh (Qxu.of_block (t:=.int) (xs:=[]) (Bg w (.cells #[] 2)) (Aj _) rfl rfl Q55.nil (by simp[Bu]));go_loopw [3,4] (λu i wr=>∃(j:Nat),j<=C/\i=I Z j/\Hd (Qxu .int 2 w wr u (((Bz j).filter λ(k:Nat)=>wP (Q3 P k) !=4).map (λ(k:Nat)=>(k:Int))))/\Hd (w,wr)) (λ_ i _=>C.length-(By i).toNat);case atStart=>exact⟨0,Ak _,rfl,X.o,(show Bp w w _ by go_grown)⟩
 obtain⟨j,hj,rfl,E,F⟩:=hrel;clear X;have A6:=jC F U;by_cases Y:j<C
 ·obtain⟨b1,o1,rfl,M⟩:=Rd.elemW (n.o.kb F) j Y
  generalize hx:C[j]=x at M;obtain⟨G,vi,xs,ls,cs⟩:=x;have a:=D (wP (Q3 P j)=G) (by simp only[Q3,W.o,List.getD_eq_getElem?_getD,List.getElem?_eq_getElem Y,hx];rfl);clear hx;obtain⟨_,_,_,_,_,_,⟨e0,-,-,-,-⟩,-,-,-,-⟩:=M.worker;clear M;obtain⟨L,H⟩:∃L:List Int,L=((Bz j).filter λ(k:Nat)=>wP (Q3 P k) !=4).map (λ(k:Nat)=>(k:Int)):=⟨_,rfl⟩;rw[<-H]at E;have c:=qh H;have A1:=D (L<=j) (by rw[H,De];have:=Eo (λ(k:Nat)=>wP (Q3 P k) !=4) (Bz j);rw[Hn]at this;exact this);clear H;obtain⟨pu,cu,rfl,A7,A8⟩:=E.o.form;have A9:w.heap.size<=wr:=F.o.size;by_cases J:G=4
  ·have O:(G !=4)=Bm:=by simp[J]
   have S:=qh O;clear J;go_wp2
   go_roundw;case rel=>exact⟨j+1,by omega,by go_num,E.o.eqL (by rw[Q8i,a.o,S.o,c.o];simp),F.o⟩
   simp[By];omega
  have O:(G !=4)=Bn:=by simp[J]
  have S:=qh O;clear J;have HJ:=D (Qyn (j:Int)) (by unfold Qyn;omega);go_wp2_with(at_builtin;refine Ql _ rfl (.tmp 24) (.tmp 26) 34 rfl (t:=.int) (v:=A pu L cu) (xs:=L) (ys:=[(j:Int)]) rfl (by decide) w 2 r _ 8 underlying34 s y z A0 rfl (by decide) rfl rfl (E.o.kept (show Bp wr wr _ by go_grown)) ((Qxu.of_block (t:=.int) (xs:=[(j:Int)]) (B:=wr) (Bg wr _) (Aj _) rfl rfl (Q29 (t:=.int) (x:=(j:Int)) HJ) (by simp[Bu])).rd rfl) (by have:=A1.o;simp only[Dg];omega) (by simp;omega) ?_;intro v1 w1 d f;have A2:=qh f;have A3:=qh d;clear d f)
  go_roundw;case rel=>exact⟨j+1,by omega,by go_num,A3.o.eqL (by rw[Q8i,a.o,S.o,c.o];rfl),Below.grown (F.o.alloc (by omega) _) A2 (by simp;omega) (λi hi=>(E.o.block i hi).1)⟩
  simp[By];omega
 have AA:C<=j:=by omega
 have g:j=C:=by omega
 have HE:=qh g;clear g;go_wp2
 go_ret;refine⟨_,rfl,E.o.eqL ?_,F.o⟩;rw[HE.o];simp only[Q2x,W.o]
def Q35(n:List Qb)(i:Nat):Bool:=i !=0 && ((Qe n ((i:Int),0)).2==0 && decide ((i:Int)<(Qe n ((i:Int),0)).1))
def Q2l(n:List Qb)(j:Nat):List Wd:=((Bz j).filter (Q35 n)).map λ(i:Nat)=>((i:Int),(Qe n (i,0)).1)
theorem Q2i(n):Y5 n=Q2l n n:=rfl
theorem Q80(n):Q2l n 1=[]:=by
 simp[Q2l,Q35]
theorem Q45(n j):Q2l n (j+1)=Q2l n j++(if Q35 n j then [((j:Int),(Qe n (j,0)).1)]else []):=by
 unfold Q2l;rw[En,Hj,Ep];congr 1
 cases h:Q35 n j<;>simp[h]
def Q1s(n j):(Q2l n j)<=j:=by
 unfold Q2l;rw[De];have:=Eo (Q35 n) (Bz j);rw[Hn]at this;exact this
def Qth(w b o)(n:List Qb)(h:At Jl w b o n)(hl:n.length<=1000000)(X:∀i,1<=i->i<n.length->aK (Q9 n i)≠0/\0<(aW (Q9 n i)).length):
  Bv prog 261 #[(b,o)] w λe w'=>∃v,e=.returned v/\Qxu Q5 143 w w' v (Y5 n)/\(w,w'):=by
 obtain⟨p,c,Y,hc,hm,f⟩:=h.net;have HN:=qh f;have HV:=qh X;have A3:=Ac w _ Y;simp only at A3;clear f h hm X;obtain⟨i0,A4,A5,A6,A7⟩:=Ck Jj;go_enter func261,ntmps261;go_wp2_with fail
 have m:=qh (Q0d (t:=Q5) (T:=143) w w rfl rfl);go_loopw [3,4] (λu i wr=>∃(j:Nat),1<=j/\(j<=n\/j=1)/\i=I Z j/\Hd (Qxu Q5 143 w wr u (Q2l n j))/\Hd (w,wr)) (λ_ i _=>n.length-(By i).toNat);case atStart=>exact⟨1,Aj _,.inr rfl,rfl,m.o.eqL (Q80 n).symm,(show Bp w w _ by go_grown)⟩
 obtain⟨j,A8,H,rfl,C,E⟩:=hrel;clear m;have A9:=jC E Y;by_cases J:j<n
 ·obtain⟨b1,o1,rfl,P⟩:=Rd.elem (HN.o.kb E) j J
  obtain⟨K,M⟩:=HV.o j A8 J;generalize hx:n[j]=x at P;rw[Qy J,hx]at K M;obtain⟨k,l,v,d,ws⟩:=x;simp only[aK,aW]at K M;obtain⟨_,_,pw,cw,⟨e0,-,-,-,q⟩,-,-,⟨AI,AA,r⟩⟩:=P.agent;obtain⟨b2,o2,rfl,S⟩:=Rd.elem r 0 M;generalize hy:ws[0]=y at S;obtain⟨F,U⟩:=y;obtain⟨f0,f1,s,z⟩:=S.word;simp only[Ty.sz,Bj,Nat.zero_mul,Nat.add_zero]at e0 q f0 f1;have A0:=D (Qe n ((j:Int),0)=(F,U)) (by simp only[Qe,Q7,Int.toNat_natCast,Qy J,hx,aW];rw[Ab];show(ws[0]?).getD (0,0)=_;rw[Ad M,hy];rfl);have AJ:(k==0)=Bm:=by simpa using K
  have HI:=qh (And.intro s z);clear P S hy hx r K s z AA;have V:=D (Q35 n j=((U==0) && decide ((j:Int)<F))) (by
   unfold Q35;rw[A0.o];have:(j !=0)=Bn:=by simp;omega
   rw[this];simp)
  have AB:=Ac wr _ A9;have AC:=Ac wr _ q;have AD:=Ac wr _ f0;simp only at AB AC AD;have AK:(0:Int)<=j:=by omega
  have AL:(j:Int)<n:=by omega
  have AM:(0:Int)<ws:=by omega
  have AN:w.heap.size<=wr:=E.o.size;obtain⟨L,O⟩:∃L:List Wd,L=Q2l n j:=⟨_,rfl⟩;have AE:=D (L<=j) (by rw[O];exact Q1s n j);rw[<-O]at C;have W:=qh O;clear O;obtain⟨pu,cu,rfl,AO,AP⟩:=C.o.form;cases q1:(U==0)with
  |false=>
   have G:=D (Q35 n j=Bm) (by rw[V.o,q1];rfl);go_wp2
   go_roundw;case rel=>exact⟨j+1,by omega,.inl (by omega),by go_num,((C.o.kept (show Bp wr wr _ by go_grown)).eqL (by rw[Q45,G.o,W.o];simp)),E.o.alloc (by omega) _⟩
   simp[By];omega
  |true=>
   cases q2:decide ((j:Int)<F)with
   |false=>
    have G:=D (Q35 n j=Bm) (by rw[V.o,q2];simp);go_wp2
    go_roundw;case rel=>exact⟨j+1,by omega,.inl (by omega),by go_num,((C.o.kept (show Bp wr wr _ by go_grown)).eqL (by rw[Q45,G.o,W.o];simp)),E.o.alloc (by omega) _⟩
    simp[By];omega
   |true=>
    have G:=D (Q35 n j=Bn) (by rw[V.o,q1,q2];rfl);have AF:=qh (Q29 (t:=Q5) (x:=((j:Int),F)) (Q4z (a:=(j:Int)) (b:=F) (by unfold Qyn;omega) HI.o.1));go_wp2_with(at_builtin;refine Ql _ rfl (.tmp 44) (.tmp 49) 41 rfl (t:=Q5) (v:=A pu L cu) (xs:=L) (ys:=[((j:Int),F)]) rfl (by decide) w 143 i0 _ 16 underlying41 A4 A5 A6 A7 rfl (by decide) rfl rfl (C.o.kept (show Bp wr wr _ by go_grown)) ((Qxu.of_block (t:=Q5) (xs:=[((j:Int),F)]) (B:=wr) (g:=wr.heap.size+1) (Jt wr _ _ _ _).2 (by omega) rfl rfl AF (by simp[Bu])).rd rfl) (by have:=AE.o;simp only[Dg];omega) (by simp;omega) ?_;intro v1 w1 A1 A2;have AG:=qh A2;have AH:=qh A1;clear A1 A2)
    go_roundw;case rel=>exact⟨j+1,by omega,.inl (by omega),by go_num,AH.o.eqL (by rw[Q45,G.o,W.o,A0.o];rfl),Below.grown ((E.o.alloc (by omega) _).alloc (by simp;omega) _) AG (by simp;omega) (λi hi=>(C.o.block i hi).1)⟩
    simp[By];omega
 go_wp2
 go_ret;refine⟨_,rfl,C.o.eqL ?_,E.o⟩;rw[Q2i];rcases H with H|H
 ·rw[show j=n by omega]
 subst H;rw[Q80];rcases Nat.lt_or_ge n 1 with h|h
 ·rw[show n.length=0 by omega];rfl
 rw[show n.length=1 by omega,Q80]
def Q81(n:List Qb)(l:List Wd):List Qy3:=(l.filter λp=>Vm p (Qe n p)).map λp=>(p,Qe n p)
theorem Qik(n l p):Q81 n (l++ [p])=Q81 n l++(if Vm p (Qe n p)then [(p,Qe n p)]else []):=by
 unfold Q81;grind
def Q0n(n:List Qb)(j q:Nat):List Qy3:=Q81 n ((Bz j).flatMap (Q0k n)++(Q0k n j).take q)
def Qii(n):Q0n n 0 0=[]:=by simp[Q0n,Q81]
theorem Vc(n j):(Q0k n j).length=(aW (Q9 n j)):=by simp[Q0k]
theorem Qgd{n j}{q:Nat}(h:q<(aW (Q9 n j))):Q0n n j (q+1)=Q0n n j q++(if Vm ((j:Int),(q:Int)) (Qe n ((j:Int),(q:Int)))then [(((j:Int),(q:Int)),Qe n ((j:Int),(q:Int)))]else []):=by
 grind[Q0n,Q0k,List.take_succ_eq_append_getElem,Qik]
def Qg8{n j}{q:Nat}(h:(aW (Q9 n j))<=q):Q0n n (j+1) 0=Q0n n j q:=by
 grind[Q0n,En,List.take_of_length_le,Vc]
theorem Qnk(n):Yw n=Q0n n n 0:=by
 unfold Yw Q0n Q81 Qk;simp
def Qd1{n:List Qb}{j q:Nat}(B:j<n):(Q0n n j q).length<=(Qk n):=by
 unfold Q0n Q81;rw[De];refine Au (Eo _ _) ?_;have C:(Bz n)=Bz (j+1)++(Bz n).drop (j+1):=by have:=List.take_append_drop (j+1) (Bz n);grind
 grind[Qk,En]
def Q8l{t a B a'}(C:Qyn t)(E:Qyn a)(F:Qyn B)(G:Qyn a'):Q55 Z7 (((t,a),(B,a')):(Int×Int)×(Int×Int)):=⟨⟨C,E⟩,⟨F,G⟩⟩
def Qea:(prog.info? 313).map (λi=>(i.zero,i.size,i.bytes))=R (R (Value.agg #[(),(),(),()]),4,32):=by kernel_rfl
theorem Qlk(w b o)(n:List Qb)(h:At Jl w b o n)(hl:n.length<=1000000)(A9:(Qk n).length<=10000000):
  Bv prog 257 #[(b,o)] w λe w'=>∃v,e=.returned v/\Qxu Z7 313 w w' v (Yw n)/\(w,w'):=by
 obtain⟨p,c,f,hc,hm,hn⟩:=h.net;have HN:=qh hn;have AA:=qh A9;have AH:=Ac w _ f;simp only at AH;clear hn h hm A9;obtain⟨i0,AI,AJ,AK,AL⟩:=Ck Qea;go_enter func257,ntmps257;go_wp2_with fail
 have AB:=qh (Q0d (t:=Z7) (T:=313) w w rfl rfl);go_loopw [3,4] (λu i wr=>∃(j:Nat),j<=n/\i=I Z j/\Hd (Qxu Z7 313 w wr u (Q0n n j 0))/\Hd (w,wr)) (λ_ i _=>n.length-(By i).toNat);case atStart=>exact⟨0,Ak _,rfl,AB.o.eqL (Qii n).symm,(show Bp w w _ by go_grown)⟩
 rename Bh=>wo
 obtain⟨j,hj,rfl,HO,O⟩:=hrel;clear AB;have P:=jC O f;by_cases S:j<n
 ·obtain⟨m,r,rfl,hA⟩:=Rd.elem HN j S
  generalize hx:n[j]=x at hA;obtain⟨k,l,v,d,ws⟩:=x;have s:=D (Q9 n j=(k,l,v,d,ws)) (by rw[Qy S,hx]);obtain⟨_,_,pw,cw,⟨-,-,-,-,U⟩,-,-,⟨B3,AM,AC⟩⟩:=hA.agent;simp only[Ty.sz,Bj]at U;have HW:=qh AC;have B4:ws.length<=1000000000000:=by
   have h1:(Qk n).length<=10000000:=AA.o;have h2:=Qd1 (n:=n) (j:=j) (q:=ws) S;have h3:(Q0k n j).length<=(Qk n):=by unfold Qk;exact(List.sublist_flatten_of_mem (List.mem_map.2 ⟨j,List.mem_range.2 S,rfl⟩)).length_le
   rw[Vc,s.o]at h3;simp only[aW]at h3;omega
  have AN:=D (Q0n n (j+1) 0=Q0n n j ws) (Qg8 (by rw[s.o];exact Aj _));clear hA hx AC AM;have B5:(0:Int)<=j:=by omega
  have B6:(j:Int)<n:=by omega
  have AO:=Ac w _ U;simp only at AO;have AP:=jC O U;go_wp2
  go_loopw [3,5] (λu i wr=>∃(q:Nat),q<=ws/\i=I Z q/\Hd (Qxu Z7 313 w wr u (Q0n n j q))/\Hd (w,wr)) (λ_ i _=>ws.length-(By i).toNat);case atStart=>exact⟨0,Ak _,rfl,HO.o,O.o⟩
  obtain⟨q,hq,rfl,G,H⟩:=hrel;clear HO O P AP;have P:=jC H f;have A0:=jC H U;by_cases A1:q<ws
  ·obtain⟨K,M,rfl,hE⟩:=Rd.elem HW q A1
   generalize hy:ws[q]=y at hE;obtain⟨C,E⟩:=y;obtain⟨A2,A3,ia,is⟩:=hE.word;simp only[Ty.sz,Bj]at A2 A3;have f0:=jC H A2;have f1:=jC H A3;have AQ:=D (Qe n ((j:Int),(q:Int))=(C,E)) (by simp only[Qe,Q7,Int.toNat_natCast,s.o,aW];rw[Ab,Ad A1,hy];rfl);have HI:=qh (And.intro ia is);clear hE hy ia is;have A4:=D (Q0n n j (q+1)=Q0n n j q++(if Vm ((j:Int),(q:Int)) (C,E)then [(((j:Int),(q:Int)),(C,E))]else [])) (by rw[Qgd (by rw[s.o];exact A1),AQ.o]);have AR:=Ac wr _ P;have AS:=Ac wr _ A0;have AT:=Ac wr _ f0;simp only at AR AS AT;have B7:(0:Int)<=q:=by omega
   have B8:(q:Int)<ws:=by omega
   have AD:w.heap.size<=wr:=H.o.size;obtain⟨L,hL⟩:∃L:List Qy3,L=Q0n n j q:=⟨_,rfl⟩;have AU:=D (L.length<=10000000) (by rw[hL];exact Au (Qd1 S) AA);rw[<-hL]at G A4;clear hL;obtain⟨pu,cu,rfl,B9,BA⟩:=G.o.form;go_wp2_with fail
   have HZ:=D ((wr.alloc (Gh #[j,q] 207)).heap[wr.heap.size]?=R (.cells #[j,q] 207)) (Bg wr _);have V:=D (Bp wr wr (wr.alloc (Gh #[j,q] 207))) (by go_grown);have BB:wr.heap.size<(wr.alloc (Gh #[j,q] 207)).heap.size:=by rw[Be];omega
   generalize wr.alloc (Gh #[j,q] 207)=W1 at *
   have A5:=jC V P;have A6:=jC V A0;have A7:=jC V f0;have A8:=jC V f1;have m0:W1.cell? (wr,0)=R (I Z j):=Q6 HZ rfl;have m1:W1.cell? (wr,1)=R (I Z q):=Q6 HZ rfl;clear P A0 f0 f1;(refine Z9 (λw'=>(W1,w')) (by kernel_rfl) (by kernel_rfl) (Ai _ _).drew ?_;(repeat(first|go_big_quiet_skip|(go_big_quiet_want;apply Exists.intro;refine⟨λw' J=> ?_, ?_⟩;(focus(have BC:=jC J A5;have BD:=jC J A6;have BE:=jC J A7;have BF:=jC J A8;have BG:=jC J m0;have BH:=jC J m1;go_simp;first|done|with_reducible rfl|(exact(Qr0).mono λe w3 ⟨he,hb⟩=>⟨by rw[he],Q0 J hb⟩)));simp only[Act.put,List.setIfInBounds_toArray,List.set_cons_zero,List.set_cons_succ];go_big_quiet_on)));refine wpQuiet_nil ?_;intro z F)
   have W:=D (wr,z) (V.o.trans (F.mono (by omega)));have BI:=F.size;have AV:=jC F A5;have AW:=jC F A6;have AX:=jC F A7;have AY:=jC F A8;have AZ:=jC F m0;have B0:=jC F m1;clear A5 A6 A7 A8 m0 m1 F;cases q1:Vm ((j:Int),(q:Int)) (C,E)with
   |false=>
    have HF:=qh q1;go_wp2
    go_roundw;case rel=>exact⟨q+1,by omega,by go_num,((G.o.kept W).eqL (by rw[A4.o,HF.o];simp)),H.o.trans (W.o.mono AD)⟩
    simp[By];omega
   |true=>
    have HF:=qh q1;have B1:=qh (Q29 (t:=Z7) (x:=(((j:Int),(q:Int)),(C,E))) (Q8l (t:=(j:Int)) (a:=(q:Int)) (by unfold Qyn;omega) (by unfold Qyn;omega) HI.o.1 HI.o.2));go_wp2_with fail
    go_region_held3(λw'=>(w',b,o,A (R (m,r)) n c)/\(w',m,r+j * 5+4,A (R (K,M)) ws cw)/\(w',K,M+q * 2,C)/\(w',K,M+q * 2+1,E)/\(w',wr.heap.size,0,j)/\(w',wr.heap.size,1,q))
     (first|with_reducible exact HS.o|(refine Qvu (w:=z) ?_ AV AW AX AY AZ B0;go_grown))
     ((refine J7 _ rfl (.tmp 46) (.tmp 60) 310 rfl (t:=Z7) (v:=A pu L cu) (xs:=L) (ys:=[(((j:Int),(q:Int)),(C,E))]) rfl (by decide) w 313 i0 _ 32 underlying310 AI AJ AK AL rfl (by decide) rfl rfl (G.o.kept (show Bp wr wr _ from(W.o.drew).alloc W.o.size _)) ((Qxu.of_block (t:=Z7) (xs:=[(((j:Int),(q:Int)),(C,E))]) (B:=0) (g:=z) (Bg z.drew _) (by omega) rfl rfl B1 (by simp[Bu])).rd rfl) (by have:=AU.o;simp only[Dg];omega) (by simp;omega) ?_;intro v1 w1 AE X;have BJ:=qh X;have B2:=qh AE;have Y:=qh (Below.grown ((H.o.trans (W.o.mono AD)).drew.alloc (by simp;omega) _) X (by simp;omega) (λi hi=>(G.o.block i hi).1));have HS:=D (((w1,b,o,A (R (m,r)) n c)/\(w1,m,r+j * 5+4,A (R (K,M)) ws cw)/\(w1,K,M+q * 2,C)/\(w1,K,M+q * 2+1,E)/\(w1,wr.heap.size,0,j)/\(w1,wr.heap.size,1,q))) (⟨jC Y f,jC Y U,jC Y A2,jC Y A3,(Q6v X (by simp;omega) (λe=>by have:=(G.o.block _ e).2;omega)).trans (by go_simp),(Q6v X (by simp;omega) (λe=>by have:=(G.o.block _ e).2;omega)).trans (by go_simp)⟩);clear AE X))
    go_wp2
    go_roundw;case rel=>exact⟨q+1,by omega,by go_num,B2.o.eqL (by rw[A4.o,HF.o];rfl),Y.o⟩
    simp[By];omega
  have AF:q=ws:=by omega
  have HE:=qh AF;clear AF;go_wp2
  go_roundw;case rel=>exact⟨j+1,by omega,by go_num,G.o.eqL (by rw[AN.o,HE.o]),H.o⟩
  simp[By];omega
 have AG:j=n:=by omega
 have HE:=qh AG;clear AG;go_wp2
 go_ret;exact⟨_,rfl,HO.o.eqL (by rw[HE.o,Qnk]),O.o⟩
def Q6b(w:Qy3):Bool:=decide (0<w.1.2) && decide (0<w.2.2)
def Qfy(n):(Zg n)=(Yw n).countP Q6b:=by
 unfold Zg;rw[List.countP_eq_length_filter];rfl
def Q9o{α p}{xs:List α}{k:Nat}(h:k<xs):(xs.take (k+1)).countP p=(xs.take k).countP p+(if p xs[k]then 1 else 0):=by
 rw[An h,List.countP_append];simp[List.countP_cons]
def Qjt(w:Bh){a b c d T}:Bp w w ((w.alloc (.cells #[a,b] T)).alloc (.cells #[c,d] T)):=by go_grown
def Quq{w b o}{n:List Qb}(h:At Jl w b o n)(X:n.length<=1000000)(O:(Qk n).length<=10000000):
  Bv prog 237 #[(b,o),.bool Bm] w (oR w ((Zg n).length:Nat)):=by
 have H:=qh h;have q:=qh X;have r:=qh O;have Y:=qh (Qfy n);have s:(Yw n).length<=10000000:=by unfold Yw;rw[De];exact Au (Eo _ _) O
 clear h X O;go_enter func237,ntmps237;go_wp2_with(go_at_call 257;refine(Qlk _ _ _ _ H q.o r.o).mono ?_;rintro e w1 ⟨v,rfl,a,d⟩;have P:=qh a;have t:=qh d;clear a d;obtain⟨p,c,rfl,y,-⟩:=P.o.form)
 obtain⟨L,f⟩:∃L:List Qy3,L=Yw n:=⟨_,rfl⟩;rw[<-f]at P Y s y⊢;clear f;have z:=qh (P.o.rd rfl);go_loopw [5,7] (λu i wr=>∃(j:Nat),j<=L/\i=I Z j/\u=I Z ((L.take j).countP Q6b:Nat)/\Hd (w1,wr)) (λ_ i _=>L.length-(By i).toNat);case atStart=>exact⟨0,Ak _,rfl,by simp,Ai _ _⟩
 obtain⟨j,hj,rfl,rfl,B⟩:=hrel;have A0:=Dn (p:=Q6b) (l:=L.take j);rw[Cf]at A0;by_cases g:j<L
 ·obtain⟨b1,o1,rfl,S⟩:=Rd.elem z.o j g
  have J:=qh (Q9o (p:=Q6b) g);generalize hx:L[j]=x at S J;obtain⟨⟨F,C⟩,⟨K,E⟩⟩:=x;have T:=D (Q6b ((F,C),(K,E))=(decide (0<C) && decide (0<E))) (rfl);obtain⟨⟨M,U,V,W⟩,k,ka,m,kb⟩:=S.link;simp only[Ty.sz,Bj]at M U V W;clear S hx;have M:=jC B M;have U:=jC B U;have V:=jC B V;have W:=jC B W;have k:=k.bd;have ka:=ka.bd;have m:=m.bd;have kb:=kb.bd;have A1:=Ac wr _ M;simp only at A1;have A3:(0:Int)<=j:=by omega
  have A4:(j:Int)<L:=by omega
  generalize (L.take j).countP Q6b=Qxj at *
  cases q1:decide (0<E)with
  |false=>
   have G:=D (Q6b ((F,C),(K,E))=Bm) (by rw[T.o,q1];simp);go_wp2
   go_roundw;case rel=>exact⟨j+1,by omega,by go_num,by rw[J.o,G.o];rfl,B.o.trans ((Qjt wr).mono B.o.size)⟩
   simp[By];omega
  |true=>
   cases q2:decide (0<C)with
   |false=>
    have G:=D (Q6b ((F,C),(K,E))=Bm) (by rw[T.o,q2];simp);cases q3:(F==0)
    all_goals
     go_wp2
     go_roundw;case rel=>exact⟨j+1,by omega,by go_num,by rw[J.o,G.o];rfl,B.o.trans ((Qjt wr).mono B.o.size)⟩
     simp[By];omega
   |true=>
    have G:=D (Q6b ((F,C),(K,E))=Bn) (by rw[T.o,q1,q2];rfl);go_wp2
    go_roundw;case rel=>exact⟨j+1,by omega,by go_num,by rw[J.o,G.o];go_num,B.o.trans ((Qjt wr).mono B.o.size)⟩
    simp[By];omega
 have A2:j=L:=by omega
 have HE:=D ((L.take j).countP Q6b=L.countP Q6b) (by rw[Ao (by omega)]);clear A2;go_wp2
 go_ret;exact⟨Qt (by rw[HE.o,Y.o]),Q0 t.o B⟩
def Q2j(x y:Qb):Int:=
 if aK x==9 && (aK y==10 && decide (((aD y):Int)<=aV x))then 8
 else if aK x==10 && (aK y==9 && decide (((aD x):Int)<=aV y))then 8
 else Jb (aK x) (aL x) (aK y) (aL y)
def Qso{w b o b' o'}{k l v:Int}{d:List Int}{ws:List Wd}{B l' C:Int}{d':List Int}{G:List Wd}(h:At Q4 w b o (k,l,v,d,ws))(H:At Q4 w b' o' (B,l',C,d',G)):
  Bv prog 235 #[(b,o),(b',o')] w λe w'=>e=.returned (Q2j (k,l,v,d,ws) (B,l',C,d',G))/\Q0z w w':=by
 obtain⟨X,Y,_,_,⟨a,c,f,g,-⟩,-,⟨-,O,-⟩,-⟩:=h.agent;obtain⟨i,j,_,_,⟨m,n,p,q,-⟩,-,⟨-,P,-⟩,-⟩:=H.agent;unfold Bu at O P;clear h H;have E:=D (Q2j (k,l,v,d,ws) (B,l',C,d',G)=(if k==9 && (B==10 && decide ((d':Int)<=v))then 8 else if k==10 && (B==9 && decide ((d:Int)<=C))then 8 else Jb k l B l')) (rfl);by_cases J:k=9
 ·subst J
  by_cases K:B=10
  ·subst K
   cases a3:decide ((d':Int)<=v)
   all_goals
    go_enter func235,ntmps235;go_wp2
    go_quiet(fail)
    go_wp2;try(go_quiet(fail))
    try go_wp2
    try(go_quiet((go_at_call 256;first|exact Yt (Qxq (Vd)) (rfl)|exact Yv (Qxq (Vd)) (rfl))))
    try go_wp2
    go_ret;exact⟨Qt (by rw[E.o,a3];rfl),by first|exact⟨_,rfl⟩|exact Q0z.more ⟨_,rfl⟩ _|exact Q0z.more (Q0z.more ⟨_,rfl⟩ _) _⟩
  have S:(B==10)=Bm:=by simp[K]
  have F:=qh S;go_enter func235,ntmps235;go_wp2
  go_quiet(fail)
  go_wp2;go_quiet(fail)
  go_wp2;go_quiet((go_at_call 256;first|exact Yt (Qxq (Vd)) (rfl)|exact Yv (Qxq (Vd)) (rfl)))
  go_wp2;go_ret;exact⟨Qt (by rw[E.o,F.o];rfl),Q0z.more (Q0z.more ⟨_,rfl⟩ _) _⟩
 have T:(k==9)=Bm:=by simp[J]
 by_cases L:k=10
 ·subst L
  by_cases M:B=9
  ·subst M
   cases a3:decide ((d:Int)<=C)
   all_goals
    go_enter func235,ntmps235;go_wp2
    go_quiet(fail)
    go_wp2;go_quiet(fail)
    go_wp2;try(go_quiet((go_at_call 256;first|exact Yt (Qxq (Vd)) (rfl)|exact Yv (Qxq (Vd)) (rfl))))
    try go_wp2
    go_ret;exact⟨Qt (by rw[E.o,a3];rfl),by first|exact⟨_,rfl⟩|exact Q0z.more ⟨_,rfl⟩ _|exact Q0z.more (Q0z.more ⟨_,rfl⟩ _) _⟩
  have U:(B==9)=Bm:=by simp[M]
  have F:=qh U;go_enter func235,ntmps235;go_wp2
  go_quiet(fail)
  go_wp2;go_quiet(fail)
  go_wp2;go_quiet((go_at_call 256;first|exact Yt (Qxq (Vd)) (rfl)|exact Yv (Qxq (Vd)) (rfl)))
  go_wp2;go_ret;exact⟨Qt (by rw[E.o,F.o];rfl),Q0z.more (Q0z.more ⟨_,rfl⟩ _) _⟩
 have V:(k==10)=Bm:=by simp[L]
 have F:=qh V;have W:=qh T;go_enter func235,ntmps235;go_wp2
 go_quiet(fail)
 go_wp2;go_quiet(fail)
 go_wp2;go_quiet((go_at_call 256;first|exact Yt (Qxq (Vd)) (rfl)|exact Yv (Qxq (Vd)) (rfl)))
 go_wp2;go_ret;exact⟨Qt (by rw[E.o,F.o,W.o];rfl),Q0z.more (Q0z.more ⟨_,rfl⟩ _) _⟩
theorem Q6p{w b o b' o' x y}(S:At Qq w b o x)(T:At Qq w b' o' y):
  Bv prog 109 #[(b,o),(b',o')] w λe w'=>e=.returned (Qyo Qq x y)/\Q0z w w':=by
 obtain⟨cs,_,r1,⟨_,_,rfl,l,_,_,rfl,⟨rfl,i0⟩,_,_,rfl,⟨_,_,rfl,⟨rfl,i1⟩,⟨rfl,i2⟩⟩,m⟩⟩:=S;obtain⟨t,_,r2,⟨_,_,rfl,n,_,_,rfl,⟨rfl,j0⟩,_,_,rfl,⟨_,_,rfl,⟨rfl,j1⟩,⟨rfl,j2⟩⟩,q⟩⟩:=T;obtain⟨d,rfl,l⟩:=Q0i l;obtain⟨d',rfl,n⟩:=Q0i n;obtain⟨p,rfl,m⟩:=Q0i m;obtain⟨p',rfl,q⟩:=Q0i q;obtain⟨E,u,⟨v,z⟩,F⟩:=x;obtain⟨K,yf,⟨yt,ya⟩,L⟩:=y;obtain⟨pc,kc,rfl,AL,A8,A1⟩:=(Ju l).gen;obtain⟨qc,kd,rfl,AM,A9,A2⟩:=(Ju n).gen;obtain⟨pr,kr,rfl,AN,AA,A3⟩:=(Ju m).gen;obtain⟨qr,ks,rfl,AO,AB,A4⟩:=(Ju q).gen;unfold Bu at A8 A9 AA AB;simp only[Bw,Bs]at *
 obtain⟨c0,c1,c2,c3,c4⟩:=Q5v r1;obtain⟨e0,e1,e2,e3,e4⟩:=Q5v r2;have AC:=qh A1;have AD:=qh A2;have AE:=qh A3;have AF:=qh A4;have A0:=λw=>Q3a i1 i2 j1 j2 w;clear l n m q A1 A2 A3 A4 r1 r2;by_cases q0:E.length=K;rotate_left
 ·have t0:((E:Int) !=(K:Int))=Bn:=by simp;omega
  have O:=D (¬E=K) (λe=>q0 (by rw[e]));clear q0;go_enter func109,ntmps109;go_wp2
  go_quiet(fail)
  go_wp2;go_ret;exact⟨Y1 (by simp[O.o]),⟨_,rfl⟩⟩
 have t0:((E:Int) !=(K:Int))=Bm:=by simp[q0]
 have HL:=qh q0;clear q0;by_cases q1:u=yf;rotate_left
 ·have t1:(u !=yf)=Bn:=by simp[q1]
  have O:=qh q1;clear q1;go_enter func109,ntmps109;go_wp2
  go_quiet(fail)
  go_wp2;go_ret;exact⟨Y1 (by simp[O.o]),⟨_,rfl⟩⟩
 have t1:(u !=yf)=Bm:=by simp[q1]
 have AG:=qh q1;clear q1;by_cases U:v=yt/\z=ya;rotate_left
 ·have Y:(v==yt && z==ya)=Bm:=by rw[Fk];intro a;apply U;simpa using a
  rw[Y]at A0;clear Y;have O:=qh U;clear U;go_enter func109,ntmps109;go_wp2
  go_quiet(fail)
  go_wp2;go_ret;exact⟨Y1 (by have:=O.o;simp;intro _ _ h3 h4;exact absurd ⟨h3,h4⟩ this),⟨_,rfl⟩⟩
 have Y:(v==yt && z==ya)=Bn:=by simpa using U
 rw[Y]at A0;clear Y;have A5:=qh U;clear U;by_cases c:F.length=L;rotate_left
 ·have t3:((F:Int) !=(L:Int))=Bn:=by simp;omega
  have O:=D (¬F=L) (λe=>c (by rw[e]));clear c;go_enter func109,ntmps109;go_wp2
  go_quiet(fail)
  go_wp2;go_ret;exact⟨Y1 (by simp[O.o]),⟨_,rfl⟩⟩
 have t3:((F:Int) !=(L:Int))=Bm:=by simp[c]
 have A6:=qh c;clear c;go_enter func109,ntmps109;go_wp2
 go_quiet(fail)
 go_wp2;have AH:=D (Q0z w (w.drewN nq)) (⟨_,rfl⟩);generalize w.drewN nq=w0 at *
 clear i0 i1 i2 j0 j1 j2 c1 c2 c3 e1 e2 e3 t0 t1 A0 t3;go_loopw [5] (λi wr=>∃k:Nat,k<=E/\i=I Z k/\Hd (E.take k=K.take k)/\Hd (Q0z w wr)) (λi _=>E.length-(By i).toNat);case atStart=>exact⟨0,Ak _,rfl,rfl,AH⟩
 obtain⟨k,hk,rfl,V,B⟩:=hrel;have AP:=jC B.o.below c0;have AQ:=jC B.o.below e0;by_cases G:k<E
 ·have P:k<K:=by rw[<-HL.o];exact G
  obtain⟨b1,o1,rfl,cs,r,H,W⟩:=AC.o k G;obtain⟨b2,o2,rfl,t,s,J,X⟩:=AD.o k P;generalize hxk:E[k]=x at W;generalize hyk:K[k]=y at X;have f:=qh hxk;have g:=qh hyk;clear hxk hyk;have HA:=D (At Q4 w b1 (o1+k * 5) x) (⟨cs,r,H,W⟩);have A7:=D (At Q4 w b2 (o2+k * 5) y) (⟨t,s,J,X⟩);clear r s H J W X c0 e0 c4 e4;by_cases C:x=y
  ·have M:=qh C;clear C
   go_wp2
   go_quiet((go_at_call 155;exact Calls.quiet_of (Qfp (HA.o.kb (Q8 B.o.below _)) (A7.o.kb (Q8 B.o.below _)) M)))
   go_wp2;go_roundw;case rel=>exact⟨k+1,by omega,by go_num,Ys G P V (by rw[f.o,g.o,M.o]),Q0z.more B _⟩
   simp[By];omega
  have h:=Yi G P (by rw[f.o,g.o];exact C);have M:=qh h;have AI:=qh C;clear C h;go_wp2
  go_quiet((go_at_call 155;exact Calls.quiet_of (Qgl (HA.o.kb (Q8 B.o.below _)) (A7.o.kb (Q8 B.o.below _)) AI)))
  go_wp2;go_ret;exact⟨Y1 (by simp[M.o]),Q0z.more B _⟩
 have S:E<=k:=by omega
 have T:K<=k:=by rw[<-HL.o];omega
 have HN:=qh (Jq V S T);clear c0 e0;go_wp2;have AJ:=qh B.o;clear B V S T;go_loopw [6] (λi wr=>∃k:Nat,k<=F/\i=I Z k/\Hd (F.take k=L.take k)/\Hd (Q0z w wr)) (λi _=>F.length-(By i).toNat);case atStart=>exact⟨0,Ak _,rfl,rfl,AJ⟩
 obtain⟨k,hk,rfl,V,B⟩:=hrel;have AR:=jC B.o.below c4;have AS:=jC B.o.below e4;by_cases G:k<F
 ·have P:k<L:=by rw[<-A6.o];exact G
  obtain⟨b1,o1,rfl,cs,r,H,W⟩:=AE.o k G;obtain⟨b2,o2,rfl,t,s,J,X⟩:=AF.o k P;generalize hxk:F[k]=x at W;generalize hyk:L[k]=y at X;have f:=qh hxk;have g:=qh hyk;clear hxk hyk r s;obtain⟨_,_,rfl,⟨rfl,m0⟩,⟨rfl,m1⟩⟩:=W;obtain⟨_,_,rfl,⟨rfl,n0⟩,⟨rfl,n1⟩⟩:=X;simp only[Bw,Bs]at H J;have hq:=λw=>Qff m0 m1 n0 n1 w;have H:=H.kb B.o.below;have J:=J.kb B.o.below;simp only[Ty.sz,Bj]at H J;obtain⟨f0,f1⟩:=Qg6 H;obtain⟨g0,g1⟩:=Qg6 J;clear H J m0 m1 n0 n1 c4 e4;by_cases C:x=y
  ·have j:(x.1==y.1 && x.2==y.2)=Bn:=by simp[C]
   have M:=qh C;clear C;rw[j]at hq;clear j;go_wp2;go_quiet(fail)
   go_wp2;go_roundw;case rel=>exact⟨k+1,by omega,by go_num,Ys G P V (by rw[f.o,g.o,M.o]),Q0z.more B _⟩
   simp[By];omega
  have j:(x.1==y.1 && x.2==y.2)=Bm:=by rw[Fk];intro a;apply C;simp only[Bi,beq_iff_eq]at a;exact Prod.ext a.1 a.2
  have h:=Yi G P (by rw[f.o,g.o];exact C);have M:=qh h;clear C h;rw[j]at hq;clear j;go_wp2;go_quiet(fail)
  go_wp2;go_ret;exact⟨Y1 (by simp[M.o]),Q0z.more B _⟩
 have S:F<=k:=by omega
 have T:L<=k:=by rw[<-A6.o];omega
 have AK:=qh (Jq V S T);go_wp2;go_ret;exact⟨Y1 (by simp[AG.o,A5.o.1,A5.o.2,HN.o,AK.o]),B.o⟩
theorem Q3g{w b o b' o'}{x y:Qxb}(V:At Qh w b o x)(W:At Qh w b' o' y):
  Bv prog 110 #[(b,o),(b',o')] w λe w'=>e=.returned (Qyo Qh x y)/\Q0z w w':=by
 obtain⟨x0,x1,L,M,x4⟩:=x;obtain⟨y0,y1,P,S,y4⟩:=y;obtain⟨px,cx,pl,cl,pc,cc,⟨c0,c1,c2,c3,c4⟩,⟨i0,i1⟩,⟨-,lx,hx⟩,⟨-,ll,hl⟩,⟨-,lc,hc⟩⟩:=V.worker;obtain⟨qx,dx,ql,dl,qc,dc,⟨e0,e1,e2,e3,e4⟩,⟨j0,j1⟩,⟨-,mx,gx⟩,⟨-,ml,gl⟩,⟨-,mc,gc⟩⟩:=W.worker;unfold Bu at lx ll lc mx ml mc;have HX:=qh hx;have HL:=qh hl;have T:=qh hc;have GX:=qh gx;have GL:=qh gl;have U:=qh gc;clear hx hl hc gx gl gc V W;by_cases q0:x0=y0;rotate_left
 ·have t0:(x0 !=y0)=Bn:=by simp[q0]
  have E:=qh q0;clear q0;go_enter func110,ntmps110;go_wp2
  go_quiet(fail)
  go_wp2;go_ret;exact⟨Y1 (by simp[E.o]),⟨_,rfl⟩⟩
 have t0:(x0 !=y0)=Bm:=by simp[q0]
 have A2:=qh q0;clear q0;by_cases q1:x1=y1;rotate_left
 ·have t1:(x1 !=y1)=Bn:=by simp[q1]
  have E:=qh q1;clear q1;go_enter func110,ntmps110;go_wp2
  go_quiet(fail)
  go_wp2;go_ret;exact⟨Y1 (by simp[E.o]),⟨_,rfl⟩⟩
 have t1:(x1 !=y1)=Bm:=by simp[q1]
 have A3:=qh q1;clear q1;by_cases q2:x4=y4;rotate_left
 ·have E:=qh q2;clear q2
  go_enter func110,ntmps110;go_wp2
  go_quiet((go_at_call 156;first|exact Yt (Q00 _ _ _ _ _ (T.o.drewN _) (U.o.drewN _)) (Qxz (Vu E))|exact Yv (Q00 _ _ _ _ _ (T.o.drewN _) (U.o.drewN _)) (Qxz (Vu E))))
  go_wp2;go_ret;exact⟨Y1 (by simp[E.o]),⟨_,rfl⟩⟩
 have X:=qh q2;clear q2;by_cases g:L.length=P;rotate_left
 ·have t3:((L:Int) !=(P:Int))=Bn:=by simp;omega
  have E:=D (¬L=P) (λe=>g (by rw[e]));clear g;go_enter func110,ntmps110;go_wp2
  go_quiet((go_at_call 156;first|exact Yt (Q00 _ _ _ _ _ (T.o.drewN _) (U.o.drewN _)) (Qxz (Js X))|exact Yv (Q00 _ _ _ _ _ (T.o.drewN _) (U.o.drewN _)) (Qxz (Js X))))
  go_wp2;go_ret;exact⟨Y1 (by simp[E.o]),⟨_,rfl⟩⟩
 have t3:((L:Int) !=(P:Int))=Bm:=by simp[g]
 have A0:=qh g;clear g;by_cases h:M.length=S;rotate_left
 ·have t4:((M:Int) !=(S:Int))=Bn:=by simp;omega
  have E:=D (¬M=S) (λe=>h (by rw[e]));clear h;go_enter func110,ntmps110;go_wp2
  go_quiet((go_at_call 156;first|exact Yt (Q00 _ _ _ _ _ (T.o.drewN _) (U.o.drewN _)) (Qxz (Js X))|exact Yv (Q00 _ _ _ _ _ (T.o.drewN _) (U.o.drewN _)) (Qxz (Js X))))
  go_wp2;go_ret;exact⟨Y1 (by simp[E.o]),⟨_,rfl⟩⟩
 have t4:((M:Int) !=(S:Int))=Bm:=by simp[h]
 have A1:=qh h;clear h;go_enter func110,ntmps110;go_wp2
 go_quiet((go_at_call 156;first|exact Yt (Q00 _ _ _ _ _ (T.o.drewN _) (U.o.drewN _)) (Qxz (Js X))|exact Yv (Q00 _ _ _ _ _ (T.o.drewN _) (U.o.drewN _)) (Qxz (Js X))))
 go_wp2;have A4:=D (Q0z w (w.drewN nq)) (⟨_,rfl⟩);generalize w.drewN nq=w0 at *
 clear i0 i1 j0 j1 c0 c1 c4 e0 e1 e4 t0 t1 t3 t4;go_loopw [5] (λi wr=>∃k:Nat,k<=L/\i=I Z k/\Hd (L.take k=P.take k)/\Hd (Q0z w wr)) (λi _=>L.length-(By i).toNat);case atStart=>exact⟨0,Ak _,rfl,rfl,A4⟩
 obtain⟨k,hk,rfl,f,C⟩:=hrel;have cw:=jC C.o.below c2;have ew:=jC C.o.below e2;by_cases O:k<L
 ·have Y:k<P:=by rw[<-A0.o];exact O
  obtain⟨b1,o1,rfl,a⟩:=Rd.elem (HX.o.drew C) k O;obtain⟨b2,o2,rfl,c⟩:=Rd.elem (GX.o.drew C) k Y;generalize hxk:L[k]=x at a;generalize hyk:P[k]=y at c;have j:=qh hxk;have l:=qh hyk;clear hxk hyk;obtain⟨F,G⟩:=x;obtain⟨H,J⟩:=y;obtain⟨f0,f1,m,n⟩:=a.word;obtain⟨g0,g1,p,q⟩:=c.word;simp only[Ty.sz,Bj]at f0 f1 g0 g1;have r:=λw=>Qff m n p q w;clear a c m n p q;by_cases B:F=H/\G=J
  ·have K:(F==H && G==J)=Bn:=by simp[B]
   have d:=D (((F,G):Int×Int)=(H,J)) (by rw[B.1,B.2]);clear B;rw[K]at r;clear K;go_wp2;go_quiet(fail)
   go_wp2;go_roundw;case rel=>exact⟨k+1,by omega,by go_num,Ys O Y f.o (by rw[j.o,l.o,d.o]),Q0z.more C _⟩
   simp[By];omega
  have K:(F==H && G==J)=Bm:=by rw[Fk];intro hh;apply B;simpa using hh
  have s:((F,G):Int×Int)≠(H,J):=λe=>B (Prod.mk.inj e);have t:=Yi O Y (by rw[j.o,l.o];exact s);have d:=qh t;clear B s t;rw[K]at r;clear K;go_wp2;go_quiet(fail)
  go_wp2;go_ret;exact⟨Y1 (by simp[d.o]),Q0z.more C _⟩
 have V:L<=k:=by omega
 have W:P<=k:=by rw[<-A0.o];omega
 have A5:=qh (Jq f.o V W);go_wp2;have A6:=qh C.o;clear C f V W cw ew;go_loopw [6] (λi wr=>∃k:Nat,k<=M/\i=I Z k/\Hd (M.take k=S.take k)/\Hd (Q0z w wr)) (λi _=>M.length-(By i).toNat);case atStart=>exact⟨0,Ak _,rfl,rfl,A6⟩
 obtain⟨k,hk,rfl,f,C⟩:=hrel;have cw:=jC C.o.below c3;have ew:=jC C.o.below e3;by_cases O:k<M
 ·have Y:k<S:=by rw[<-A1.o];exact O
  obtain⟨b1,o1,rfl,a⟩:=Rd.elem (HL.o.drew C) k O;obtain⟨b2,o2,rfl,c⟩:=Rd.elem (GL.o.drew C) k Y;generalize hxk:M[k]=x at a;generalize hyk:S[k]=y at c;have j:=qh hxk;have l:=qh hyk;clear hxk hyk;obtain⟨⟨F,G⟩,u,v⟩:=x;obtain⟨⟨H,J⟩,z,yd⟩:=y;obtain⟨⟨f0,f1,f2,f3⟩,m,n,m2,m3⟩:=a.link;obtain⟨⟨g0,g1,g2,g3⟩,p,q,n2,n3⟩:=c.link;simp only[Ty.sz,Bj]at f0 f1 f2 f3 g0 g1 g2 g3;have r:=λw=>Qke m n m2 m3 p q n2 n3 w;clear a c m n m2 m3 p q n2 n3;by_cases B:F=H/\G=J/\u=z/\v=yd
  ·have K:(F==H && G==J && u==z && v==yd)=Bn:=by simp[B]
   have d:=D ((((F,G),u,v):Qy3)=((H,J),z,yd)) (by rw[B.1,B.2.1,B.2.2.1,B.2.2.2]);clear B;rw[K]at r;clear K;go_wp2;go_quiet(fail)
   go_wp2;go_roundw;case rel=>exact⟨k+1,by omega,by go_num,Ys O Y f.o (by rw[j.o,l.o,d.o]),Q0z.more C _⟩
   simp[By];omega
  have K:(F==H && G==J && u==z && v==yd)=Bm:=by rw[Fk];intro hh;apply B;simpa[and_assoc]using hh
  have s:(((F,G),u,v):Qy3)≠((H,J),z,yd):=λe=>by simp only[Prod.mk.injEq]at e;exact B ⟨e.1.1,e.1.2,e.2.1,e.2.2⟩
  have t:=Yi O Y (by rw[j.o,l.o];exact s);have d:=qh t;clear B s t;rw[K]at r;clear K;go_wp2;go_quiet(fail)
  go_wp2;go_ret;exact⟨Y1 (by simp[d.o]),Q0z.more C _⟩
 have V:M<=k:=by omega
 have W:S<=k:=by rw[<-A1.o];omega
 have A7:=qh (Jq f.o V W);go_wp2;go_ret;exact⟨Y1 (by simp[A2.o,A3.o,X.o,A5.o,A7.o]),C.o⟩
def Qp9{w b o b' o'}{x y:Ye}(G:At Qv w b o x)(H:At Qv w b' o' y):
  Bv prog 62 #[(b,o),(b',o')] w λe w'=>e=.returned (Qyo Qv x y)/\Q0z w w':=by
 obtain⟨q,xs,U⟩:=x;obtain⟨r,ys,V⟩:=y;obtain⟨Y,px,cx,⟨s,t⟩,u,⟨-,v,a⟩⟩:=G.pool;obtain⟨c,qx,dx,⟨z,e6⟩,j6,⟨-,mx,d⟩⟩:=H.pool;unfold Bu at v mx;have J:=qh Y;have K:=qh c;have HX:=qh a;have GX:=qh d;clear Y c a d G H;by_cases q0:U=V;rotate_left
 ·have f:(U !=V)=Bn:=by simp[q0]
  have B:=qh q0;clear q0;go_enter func62,ntmps62;go_wp2
  go_quiet(fail)
  go_wp2;go_ret;exact⟨Y1 (by simp[B.o]),⟨_,rfl⟩⟩
 have f:(U !=V)=Bm:=by simp[q0]
 have A0:=qh q0;clear q0;by_cases q1:xs.length=ys;rotate_left
 ·have g:((xs:Int) !=(ys:Int))=Bn:=by simp;omega
  have B:=D (¬xs=ys) (λe=>q1 (by rw[e]));clear q1;go_enter func62,ntmps62;go_wp2
  go_quiet(fail)
  go_wp2;go_ret;exact⟨Y1 (by simp[B.o]),⟨_,rfl⟩⟩
 have g:((xs:Int) !=(ys:Int))=Bm:=by simp[q1]
 have h:=qh q1;clear q1;by_cases L:q=r;rotate_left
 ·have B:=qh L;clear L
  go_enter func62,ntmps62;go_wp2
  go_quiet((go_at_call 109;first|exact Yt (Q6p (J.o.drewN _) (K.o.drewN _)) (Qxz (Vu B))|exact Yv (Q6p (J.o.drewN _) (K.o.drewN _)) (Qxz (Vu B))))
  go_wp2;go_ret;exact⟨Y1 (by simp[B.o]),⟨_,rfl⟩⟩
 have W:=qh L;clear L;go_enter func62,ntmps62;go_wp2
 go_quiet((go_at_call 109;first|exact Yt (Q6p (J.o.drewN _) (K.o.drewN _)) (Qxz (Js W))|exact Yv (Q6p (J.o.drewN _) (K.o.drewN _)) (Qxz (Js W))))
 go_wp2;have A1:=D (Q0z w (w.drewN nq)) (⟨_,rfl⟩);generalize w.drewN nq=w0 at *
 clear u j6 t e6 f g;go_loopw [5] (λi wr=>∃k:Nat,k<=xs/\i=I Z k/\Hd (xs.take k=ys.take k)/\Hd (Q0z w wr)) (λi _=>xs.length-(By i).toNat);case atStart=>exact⟨0,Ak _,rfl,rfl,A1⟩
 obtain⟨k,hk,rfl,j,C⟩:=hrel;have cw:=jC C.o.below s;have ew:=jC C.o.below z;by_cases M:k<xs
 ·have X:k<ys:=by rw[<-h.o];exact M
  obtain⟨b1,o1,rfl,O⟩:=Rd.elem (HX.o.drew C) k M;obtain⟨b2,o2,rfl,P⟩:=Rd.elem (GX.o.drew C) k X;generalize hxk:xs[k]=x at O;generalize hyk:ys[k]=y at P;have l:=qh hxk;have m:=qh hyk;clear hxk hyk;simp only[Ty.sz,Bj]at O P;have S:=qh O;have T:=qh P;clear O P;by_cases E:x=y
  ·have F:=qh E;clear E
   go_wp2
   go_quiet((go_at_call 110;first|exact Yt (Q3g (S.o.drewN _) (T.o.drewN _)) (Qxz (Js F))|exact Yv (Q3g (S.o.drewN _) (T.o.drewN _)) (Qxz (Js F))))
   go_wp2;go_roundw;case rel=>exact⟨k+1,by omega,by go_num,Ys M X j.o (by rw[l.o,m.o,F.o]),Q0z.more C _⟩
   simp[By];omega
  have n:=Yi M X (by rw[l.o,m.o];exact E);have F:=qh n;have p:=qh E;clear E n;go_wp2
  go_quiet((go_at_call 110;first|exact Yt (Q3g (S.o.drewN _) (T.o.drewN _)) (Qxz (Vu p.o))|exact Yv (Q3g (S.o.drewN _) (T.o.drewN _)) (Qxz (Vu p.o))))
  go_wp2;go_ret;exact⟨Y1 (by simp[F.o]),Q0z.more C _⟩
 have G:xs<=k:=by omega
 have H:ys<=k:=by rw[<-h.o];omega
 have HN:=qh (Jq j.o G H);go_wp2;go_ret;exact⟨Y1 (by simp[A0.o,W.o,HN.o]),C.o⟩
def Qpq(w p c)(xs:List Ye)(b o)(y:Ye)(h:Rd (.slice Qv) w [A p xs c] xs)(U:xs<=Bu)(M:At Qv w b o y):
  Bv prog 28 #[A p xs c,(b,o)] w λe w'=>e=.returned (Q5z (λx=>Qyo Qv x y) xs)/\Q0z w w':=by
 unfold Bu at U;have H:=qh h;have O:=qh M;clear h M;go_enter func28,ntmps28;go_wp2
 go_loopw [5] (λi wr=>∃j:Nat,j<=xs/\i=I Z j/\Hd (∀(q:Nat) (B:q<xs),q<j->Qyo Qv xs[q] y=Bm)/\Hd (Q0z w wr)) (λi _=>xs.length-(By i).toNat);case atStart=>exact⟨0,Ak _,rfl,λq _ h=>absurd h (Dh _),Q0z.refl _⟩
 obtain⟨j,X,rfl,K,C⟩:=hrel;by_cases P:j<xs
 ·obtain⟨Y,a,rfl,G⟩:=Rd.elem (H.o.drew C) j P
  generalize hx:xs[j]=x at G;have S:=qh hx;clear hx;simp only[Ty.sz,Bj]at G;have T:=qh G;clear G;cases hok:Qyo Qv x y with
  |true=>
   have E:=qh hok;clear hok;go_wp2_with(go_at_call 62;refine jR (Qp9 T (O.o.drew C)) λw' F=> ?_;rw[E.o];have L:=qh F;clear F)
   go_ret;exact⟨Qt (Qf5 (p:=λx=>Qyo Qv x y) P (λq B J=>K.o q B J) (by rw[S.o];exact E.o)).symm,C.o.trans L⟩
  |false=>
   have E:=qh hok;clear hok;go_wp2_with(go_at_call 62;refine jR (Qp9 T (O.o.drew C)) λw' F=> ?_;rw[E.o];have L:=qh F;clear F)
   go_roundw;case rel=>exact⟨j+1,by omega,by go_num,λq B J=>(by
    by_cases V:q=j
    ·subst V;rw[S.o];exact E.o
    exact K.o q B (by omega)),C.o.trans L⟩
   simp[By];omega
 have W:xs<=j:=by omega
 go_wp2;go_ret;exact⟨Qt (Q9a (p:=λx=>Qyo Qv x y) W (λq B J=>K.o q B J)).symm,C.o⟩
def Qy9(t:TypeId)(x:Operand):Op:=.load t x
theorem Q7a(t x):Qy9 t x=.load t x:=rfl
def Qe2{B a w b}{o p:Nat}(h:Bp B a w)(C:B<=b){E v1}:Bp B a ((w.setCell (b,o) E).setCell (b,p) v1):=(h.setCell C _).setCell C _
def Q3l{B a w b}{o p q r s:Nat}(h:Bp B a w)(C:B<=b){E v1 F G H}:Bp B a (((((w.setCell (b,o) E).setCell (b,p) v1).setCell (b,q) F).setCell (b,r) G).setCell (b,s) H):=((((h.setCell C _).setCell C _).setCell C _).setCell C _).setCell C _
theorem V1{X a w b}{o:Nat}(h:Q1 X a w)(B:X b)(C):Q1 X a (w.setCell (b,o) C):=h.setCell B _
def Vf{X a w b}{o p:Nat}(h:Q1 X a w)(B:X b)(C v1):Q1 X a ((w.setCell (b,o) C).setCell (b,p) v1):=(h.setCell B _).setCell B _
def Q6t{X a w b}{o p q r:Nat}(h:Q1 X a w)(F:X b)(B v1 C E):Q1 X a ((((w.setCell (b,o) B).setCell (b,p) v1).setCell (b,q) C).setCell (b,r) E):=by grind[Q1.setCell]
theorem Q1y{X a w b}{o p q r s:Nat}(h:Q1 X a w)(G:X b)(B v1 C E F):Q1 X a (((((w.setCell (b,o) B).setCell (b,p) v1).setCell (b,q) C).setCell (b,r) E).setCell (b,s) F):=by grind[Q1.setCell]
theorem Q2u{w:Bh}{b:Nat}{T G H J K L}(h:w.heap[b]?=R (.cells #[G,H,J,K,L] T))(B v1 C E F):
  (((((w.setCell (b,0) B).setCell (b,1) v1).setCell (b,2) C).setCell (b,3) E).setCell (b,4) F).heap[b]?=R (.cells #[B,v1,C,E,F] T):=by
 have:=Jn [B,v1,C,E,F] 0 w _ h;simp only[Yu,Cg,Bj]at this;rw[this];simp[Q1u]
theorem Vs{w:Bh}{b:Nat}{T C E}(h:w.heap[b]?=R (.cells #[C,E] T))(B v1):
  ((w.setCell (b,0) B).setCell (b,1) v1).heap[b]?=R (.cells #[B,v1] T):=by
 have:=Jn [B,v1] 0 w _ h;simp only[Yu,Cg,Bj]at this;rw[this];simp[Q1u]
def Yf{w:Bh}{b T B C E F G}(h:w.heap[b]?=R (.cells #[B,C,E,F,G] T)):((w,b,0,B)/\(w,b,1,C)/\(w,b,2,E)/\(w,b,3,F)/\(w,b,4,G))/\∀q,w.frozen? ⟨b,q,N⟩=Bm:=
 ⟨⟨Q6 h rfl,Q6 h rfl,Q6 h rfl,Q6 h rfl,Q6 h rfl⟩,λq=>Q0u.free (T:=T) ⟨_,h⟩ q⟩
def Qu2{w:Bh}{b T B C E F}(h:w.heap[b]?=R (.cells #[B,C,E,F] T)):((w,b,0,B)/\(w,b,1,C)/\(w,b,2,E)/\(w,b,3,F))/\∀q,w.frozen? ⟨b,q,N⟩=Bm:=
 ⟨⟨Q6 h rfl,Q6 h rfl,Q6 h rfl,Q6 h rfl⟩,λq=>Q0u.free (T:=T) ⟨_,h⟩ q⟩
def Zj{w:Bh}{b T B C}(h:w.heap[b]?=R (.cells #[B,C] T)):((w,b,0,B)/\(w,b,1,C))/\∀q,w.frozen? ⟨b,q,N⟩=Bm:=
 ⟨⟨Q6 h rfl,Q6 h rfl⟩,λq=>Q0u.free (T:=T) ⟨_,h⟩ q⟩
def Zi(cs:List Qb)(p:Wd):Wd:=if Vg (aK (Q7 cs p.1)) (aL (Q7 cs p.1)) (aK (Q7 cs p.2)) (aL (Q7 cs p.2))==2 then(p.2,p.1)else p
def Qu(cs:List Qb)(p:Wd):Int:=Q2j (Zb (Q7 cs p.1)) (Zb (Q7 cs p.2))
def Qyl(cs:List Qb)(p:Wd):Prop:=(0<=p.1/\p.1<cs)/\(0<=p.2/\p.2<cs)
def Qwx(w:Bh)(a b T):(w.alloc (.cells #[a,b] T)).cell? (w,0)=R a/\(w.alloc (.cells #[a,b] T)).cell? (w,1)=R b/\Bp w w (w.alloc (.cells #[a,b] T)):=⟨Q6 (Bg w _) rfl,Q6 (Bg w _) rfl,by go_grown⟩
def Qi3(w b o)(m:Qyb)(h:At Qq w b o m)(p q)(U:Qyl (mC m) (p,q)):
  Bv prog 226 #[(b,o),.agg #[p,q]] w (oR w (.tuple #[I Z (Zi (mC m) (p,q)).1,I Z (Zi (mC m) (p,q)).2])):=by
 obtain⟨cs,f,⟨g,i⟩,xs⟩:=m;obtain⟨j,n,_,_,⟨E,-,-,-,-⟩,-,⟨r,V,F⟩,-⟩:=h.mem;obtain⟨⟨p0,s⟩,⟨q0,q1⟩⟩:(0<=p/\p<cs)/\(0<=q/\q<cs):=U;have K:p.toNat<cs:=by omega
 have L:q.toNat<cs:=by omega
 obtain⟨t,u,rfl,M⟩:=Rd.elem F p.toNat K;obtain⟨z,o2,O,P⟩:=Rd.elem F q.toNat L;simp only[Option.some.injEq,Addr.mk.injEq,and_true]at O;obtain⟨rfl,rfl⟩:=O;have S:Hd (Zi cs (p,q)=if Vg (aK cs[p.toNat]) (aL cs[p.toNat]) (aK cs[q.toNat]) (aL cs[q.toNat])==2 then(q,p)else(p,q)):=by show Zi cs (p,q)=_;simp only[Zi,Q7,Qy K,Qy L]
 generalize cs[p.toNat]=x at *
 generalize cs[q.toNat]=y at *
 obtain⟨k,l,v,d,ws⟩:=x;obtain⟨T,l',v',d',A0⟩:=y;obtain⟨_,_,_,_,⟨C,G,-,-,-⟩,-,-,-⟩:=M.agent;obtain⟨_,_,_,_,⟨H,J,-,-,-⟩,-,-,-⟩:=P.agent;simp only[Ty.sz,Bj]at C G H J;have W:Hd (Zi cs (p,q)=if Vg k l T l'==2 then(q,p)else(p,q)):=S.o;clear M P S h F;unfold Bu at V;have X:=Ac w _ E;have Y:=Ac w _ C;simp only at X Y;show Bv _ _ _ _ λe w'=>e=.returned (.tuple #[I Z (Zi cs (p,q)).1,I Z (Zi cs (p,q)).2])/\_;cases qq:(Vg k l T l'==2)
 all_goals
  have a:=qh qq;go_enter func226,ntmps226;go_wp2_with fail
  obtain⟨m0,m1,B⟩:=Qwx w p q 143;have c:=qh B;generalize w.alloc (Gh #[p,q] 143)=W1 at *
  have A1:=jC B E;have A2:=jC B C;have A3:=jC B G;have A4:=jC B H;have A5:=jC B J;clear B E C G H J;go_quiet(fail)
  go_wp2;go_quiet(fail)
  go_wp2;go_quiet((go_at_call 238;first|exact Yt (Qxq (Qkr)) (rfl)|exact Yv (Qxq (Qkr)) (rfl)))
  go_wp2;go_quiet(fail)
  go_wp2;go_ret2
  refine⟨?_, ?_⟩
  ·rw[W.o,a.o];rfl
  exact Q8 (Q8 (Q8 (Q8 c.o _) _) _) _
def Qxk{w:Bh}{b B C E F G}(h:w.heap[b]?=R (.cells #[B,C,E,F,G] 153)):((w,b,0,B)/\(w,b,1,C)/\(w,b,2,E)/\(w,b,3,F)/\(w,b,4,G))/\∀q,w.frozen? ⟨b,q,N⟩=Bm:=
 ⟨⟨Q6 h rfl,Q6 h rfl,Q6 h rfl,Q6 h rfl,Q6 h rfl⟩,λq=>Q0u.free (T:=153) ⟨_,h⟩ q⟩
def At.ofAg{w b k l v C E F G n}{d:List Int}{us:List Wd}(h:w.heap[b]?=R (.cells #[k,l,v,A C d F,A E n G] 153))(B:Qyn k/\Qyn l/\Qyn v)(H:Rd (.slice .int) w [A C d F] d)(J:Rd (.slice Q5) w [A E n G] us):At Q4 w b 0 (k,l,v,d,us):=
 ⟨_,rfl,Q1n (Q6 h rfl) (Q6 h rfl) (Q6 h rfl) (Q6 h rfl) (Q6 h rfl),[_],_,rfl,⟨rfl,B.1⟩,[_],_,rfl,⟨rfl,B.2.1⟩,[_],_,rfl,⟨rfl,B.2.2⟩,[_],[_],rfl,H,J⟩
theorem Qha(w b o)(m:Qyb)(h:At Qq w b o m)(p q)(hp:Qyl (mC m) (p,q))(O:(aW (Q7 (mC m) p)).length<=100000000)(P:(aW (Q7 (mC m) q)).length<=100000000):
  Bv prog 222 #[(b,o),.agg #[p,q]] w (oR w (Qu (mC m) (p,q))):=by
 obtain⟨cs,f,⟨rt,ra⟩,xs⟩:=m;obtain⟨pc,cc,_,_,⟨T,-,-,-,-⟩,-,⟨hc,hm,U⟩,-⟩:=h.mem;obtain⟨⟨p0,p1⟩,⟨q0,q1⟩⟩:(0<=p/\p<cs)/\(0<=q/\q<cs):=hp;have V:p.toNat<cs:=by omega
 have W:q.toNat<cs:=by omega
 obtain⟨b1,o1,rfl,a⟩:=Rd.elem U p.toNat V;obtain⟨b2,o2,A0,g⟩:=Rd.elem U q.toNat W;simp only[Option.some.injEq,Addr.mk.injEq,and_true]at A0;obtain⟨rfl,rfl⟩:=A0;have HV:Hd (Qu cs (p,q)=Q2j (Zb cs[p.toNat]) (Zb cs[q.toNat])):=by show Qu cs (p,q)=_;simp only[Qu,Q7,Qy V,Qy W]
 have O:(aW cs[p.toNat]).length<=100000000:=by have:(aW (Q7 cs p)).length<=100000000:=O;rwa [Q7,Qy V]at this
 have P:(aW cs[q.toNat]).length<=100000000:=by have:(aW (Q7 cs q)).length<=100000000:=P;rwa [Q7,Qy W]at this
 generalize cs[p.toNat]=x at *
 generalize cs[q.toNat]=y at *
 obtain⟨k,l,v,d,ws⟩:=x;obtain⟨k',l',v',d',A1⟩:=y;simp only[Ty.sz,Bj]at a g;have HA:=qh a;have HE:=qh g;have A9:=D (ws.length<=100000000) (O);have AA:=D (A1.length<=100000000) (P);clear a g h U O P;unfold Bu at hm;have AB:=Ac w _ T;simp only at AB;show Bv _ _ _ _ λe w'=>e=.returned (Qu cs (p,q))/\_;go_enter func222,ntmps222;go_upto_region 1 with fail
 obtain⟨j,n,K⟩:=Qwx w p q 143;have HB:=qh K;have AM:w.heap.size<(w.alloc (Gh #[p,q] 143)).heap.size:=by rw[Be];omega
 generalize w.alloc (Gh #[p,q] 143)=W1 at *
 have r:=jC K T;have s:=qh (HA.o.kb K);have t:=qh (HE.o.kb K);obtain⟨pd,cd,_,_,⟨-,-,-,a3,-⟩,-,⟨-,-,A2⟩,-⟩:=s.o.agent;obtain⟨AC,AD,_,_,⟨-,-,-,e3,-⟩,-,⟨-,-,A3⟩,-⟩:=t.o.agent;have A4:=qh a3;have A5:=qh e3;have u:=qh A2;have A6:=qh A3;clear K T HA HE a3 e3 A2 A3;have S:=D (((W1.alloc (.cells #[(),(),(),jN,jN] 153)).drew).heap[W1.heap.size]?=R (.cells #[(),(),(),jN,jN] 153)) (Bg W1 _);go_cut [5] (λx L=>∃(X:Nat),x=.pointer (R (X,0))/\Hd (At Q4 L X 0 (Zb (k,l,v,d,ws)))/\Hd (W1,L))
 case first=>
  go_region_held3(λw'=>(w',b,o,A (R (b1,o1)) cs cc)/\(w',w.heap.size,0,p)/\(w',w.heap.size,1,q))
   ((refine Qc5 (w:=W1) ?_ r j n;first|with_reducible exact B.o|with_reducible exact B.o.alloc B.o.size _|with_reducible exact Q3l B (Aj _)|go_grown))
   ((go_at_call 151;go_loud(refine(Q7q _ _ _ _ _ _ _ _ (s.o.kb (w:=W1) (by go_grown)) A9 pd cd (jC (w:=W1) (by go_grown) A4)).mono ?_;rintro e w2 ⟨pu,cu,rfl,C,G,E⟩;have M:=qh C;rw[Eh]at G;have H:=qh G;have B:=D (W1,w2) (Q0 (by go_grown) E);have AE:=qh E;(first|((with_reducible have J:=Qf S E);obtain⟨⟨z0,z1,z2,z3,z4⟩,AF⟩:=Qxk J;have z:=qh J;clear J)|skip);clear C G E)))
  all_goals(go_wp2;go_meet)
  ·exact⟨_,rfl,(show At _ _ _ _ _ from At.ofAg (Bg w2 _) M (u.o.kb (B.o.alloc B.o.size _)) ((H.o.kept (by go_grown)).rd rfl)),(show Bp _ _ _ from B.o.alloc B.o.size _)⟩
  exact⟨_,rfl,(show At _ _ _ _ _ from At.ofAg (Q2u z.o _ _ _ _ _) M (u.o.kb (Q3l B (Aj _))) ((H.o.frame (Q1y (Q1.refl (λc=>c=W1) w2) rfl _ _ _ _ _) (λi C e=>by have:=(H.o.block i C).1;simp at this;omega)).rd rfl)),(show Bp _ _ _ from Q3l B (Aj _))⟩
 obtain⟨X,rfl,HX,F⟩:=hcut;have AN:=F.o.size;have AG:=jC F r;have AH:=jC F j;have AI:=jC F n;have AJ:=qh (t.o.kb F);have AK:=qh (jC F A5);have A7:=qh (A6.o.kb F);clear r j n t A5 A6 S s A4 u;have S:=D (((wc.alloc (.cells #[(),(),(),jN,jN] 153)).drew).heap[wc.heap.size]?=R (.cells #[(),(),(),jN,jN] 153)) (Bg wc _);go_upto_region 2 with fail
 go_cut [6] (λx L=>∃(Y:Nat),x=.pointer (R (Y,0))/\Hd (At Q4 L Y 0 (Zb (k',l',v',d',A1)))/\Hd (wc,L))
 case first=>
  go_region_held3(λw'=>(w',b,o,A (R (b1,o1)) cs cc)/\(w',w.heap.size,0,p)/\(w',w.heap.size,1,q))
   ((refine Qc5 (w:=wc) ?_ AG AH AI;first|with_reducible exact B.o|with_reducible exact B.o.alloc B.o.size _|with_reducible exact Q3l B (Aj _)|go_grown))
   ((go_at_call 151;refine(Q7q _ _ _ _ _ _ _ _ (AJ.o.kb (w:=wc) (by go_grown)) AA AC AD (jC (w:=wc) (by go_grown) AK)).mono ?_;rintro e w2 ⟨pu,cu,rfl,C,G,E⟩;have M:=qh C;rw[Eh]at G;have H:=qh G;have B:=D (wc,w2) (Q0 (by go_grown) E);have AE:=qh E;(first|((with_reducible have J:=Qf S E);obtain⟨⟨z0,z1,z2,z3,z4⟩,AF⟩:=Qxk J;have z:=qh J;clear J)|skip);clear C G E))
  all_goals(go_wp2;go_meet)
  ·exact⟨_,rfl,(show At _ _ _ _ _ from At.ofAg (Bg w2 _) M (A7.o.kb (B.o.alloc B.o.size _)) ((H.o.kept (by go_grown)).rd rfl)),(show Bp _ _ _ from B.o.alloc B.o.size _)⟩
  exact⟨_,rfl,(show At _ _ _ _ _ from At.ofAg (Q2u z.o _ _ _ _ _) M (A7.o.kb (Q3l B (Aj _))) ((H.o.frame (Q1y (Q1.refl (λc=>c=wc) w2) rfl _ _ _ _ _) (λi C e=>by have:=(H.o.block i C).1;simp at this;omega)).rd rfl)),(show Bp _ _ _ from Q3l B (Aj _))⟩
 obtain⟨Y,rfl,HY,A8⟩:=hcut;rename Bh=>wd
 go_wp2_with(go_at_call 235;refine jR (Qso (HX.o.kb A8) HY) λw3 hd=> ?_;have AL:=qh hd;clear hd)
 go_ret;exact⟨Qt (by rw[HV.o];rfl),Q0 (Q0 (Q0 HB F) A8) AL.o.below⟩
end Go.Proofs.YtcjngpfigpglfaaGreatDoor
