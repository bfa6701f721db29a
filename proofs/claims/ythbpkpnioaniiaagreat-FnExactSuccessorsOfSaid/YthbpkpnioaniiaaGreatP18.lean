import Derived.Test.YthbpkpnioaniiaaGreatP15
import Derived.Test.YthbpkpnioaniiaaGreatP17
set_option maxHeartbeats 40000000
set_option maxRecDepth 100000
set_option linter.all false
namespace Go.Proofs.YthbpkpnioaniiaaGreat
open Go.RowKit Go.Proofs.Tryz
open Go.Value renaming int->I,slice->A
open Go.IntKind renaming i64->Z
open Option renaming none->N,some->R
open Bool renaming true->Bn,and_eq_true->Bl,or_eq_true->Gb,false->Bm,false_and->Cn,false_eq_true->Cv,and_false->Dp
open Go.RowKit renaming Below->Bi,intOf->Bv
open Go.World renaming cell?_setCell_same->Bw
open Int renaming toNat_natCast->By
open List renaming foldl_cons->Ce,mem_flatMap->Dk,mem_map->Eh,mem_range->Cy,mem_filter->Dn,length_cons->Bs,flatMap_cons->Gq,getElem?_set_self->Ik,length_drop->Df,length_take->Cj
open Nat renaming sub_self->Gp,reduceAdd->Bj
def Yq(n:Qr2)(l:Int):Qr2:=n.map λx=>(aK x,(if Y1 (aK x)then aL x+l else aL x),aV x,aD x,aW x)
theorem Ym(n:Qr2)(l:Int):(Yq n l).length=n.length:=by simp[Yq]
theorem Q4x(n:Qr2)(l:Int)(i:Nat):Qn (Yq n l) i=(aK (Qn n i),(if Y1 (aK (Qn n i))then aL (Qn n i)+l else aL (Qn n i)),aV (Qn n i),aD (Qn n i),aW (Qn n i)):=by
 unfold Qn Yq;rw[Ab,List.getElem?_map,Ab];cases n[i]?<;>rfl
theorem Q6r(n:Qr2)(l:Int)(i:Nat):aW (Qn (Yq n l) i)=aW (Qn n i):=by rw[Q4x];rfl
theorem Q2y(n:Qr2)(l:Int)(p:Wd):Qt (Yq n l) p=Qt n p:=by unfold Qt Q7;rw[Q6r]
theorem Q3a(n:Qr2)(l:Int):Qs (Yq n l)=Qs n:=by
 unfold Qs Q0i;rw[Ym];simp only[Q6r]
theorem Qek(n:Qr2)(l:Int):Yk (Yq n l)=Yk n:=by
 unfold Yk;rw[Q3a];simp only[Q2y]
theorem Qdy(n:Qr2)(l:Int):Zv (Yq n l)=Zv n:=by unfold Zv;rw[Qek]
theorem Qd1(n:Qr2)(l:Int):Yd (Yq n l)=Yd n:=by
 unfold Yd;rw[Ym];simp only[Q2y]
def Qhn(x:Qb):Qb:=(aK x,aL x,aV x,aD x,Jj ((aW x).length-1))
theorem Qfc(n:Qr2)(l:Int)(i:Nat):Qhn (Qn (Yq n l) i)=Q3e (Qn n i) l:=by rw[Q4x];rfl
def Qak(at_:List Int)(m:Qqp)(p x:Wd):Qqp:=Qh m (at_.getD p.1.toNat 0) (p.2-1) x
def Q5m(at_:List Int)(m:Qqp)(w:Qqt):Qqp:=Qak at_ (Qak at_ (Qv m) w.1 (2,mF m)) w.2 (2,mF m)
def Q7b(n:Qr2)(p:Wd):Bool:=decide (0<p.2) && (Qt n p).2==0
def Q78(n:Qr2)(at_:List Int)(m:Qqp)(p:Wd):Qqp:=Qak at_ m p (1,at_.getD (Qt n p).1.toNat 0)
def Q3z(n:Qr2)(l:Int)(m:Qqp)(b:Int):Qqp:=
 let at_:=(Qqi n l m (n.length-1)).set 0 b
 let m1:=(Zv n).foldl (Q5m at_) (Q00 n l m (n.length-1))
 let m2:=((Qs n).filter (Q7b n)).foldl (Q78 n at_) m1
 let m3:=(Yd n).foldl (λm p=>Yu m (at_.getD p.1.toNat 0) (at_.getD p.2.toNat 0)) m2
 if(Qt n (0,0)).2==0 then Yu m3 b (at_.getD (Qt n (0,0)).1.toNat 0)else m3
theorem Qjn(m:Qqp)(i:Int)(ws:List Wd)(h:¬i.toNat<(mC m).length):Qa m i ws=m:=by
 unfold Qa Qf0;rw[List.set_eq_of_length_le (by omega)];rfl
theorem Qpi(m:Qqp)(i j:Int)(h:i.toNat=j.toNat)(ws:List Wd):Qa m i ws=Qa m j ws:=by
 unfold Qa Qf0 Q7;rw[h]
theorem Qgh(m:Qqp)(i j k:Int)(h:i.toNat=j.toNat)(x:Wd):Qh m i k x=Qh m j k x:=by
 unfold Qh;rw[Qpi _ _ _ h];unfold Q7;rw[h]
theorem Qlx(m:Qqp)(i j k r:Int)(x y:Wd)(h:i.toNat≠j.toNat\/k.toNat≠r.toNat):Qh (Qh m i k x) j r y=Qh (Qh m j r y) i k x:=by
 by_cases e:i.toNat=j.toNat
 ·have C:k.toNat≠r.toNat:=h.resolve_left (λh=>h e)
  rw[Qgh (Qh m i k x) j i r e.symm,Qgh m j i r e.symm];by_cases B:i.toNat<(mC m).length
  ·unfold Qh
   rw[Q48 _ _ _ B,Q48 _ _ _ B,Q42,Q42,List.set_comm _ _ C]
  ·unfold Qh
   have e:∀ws,Qa m i ws=m:=λws=>Qjn m i ws B;simp only[e]
 ·unfold Qh
  rw[Q5a _ _ _ _ e,Q5a _ _ _ _ (Ne.symm e),Q66 _ _ _ _ _ e]
theorem Qkv(m:Qqp)(i k:Int)(x:Wd):Qh (Qh m i k x) i k x=Qh m i k x:=by
 by_cases B:i.toNat<(mC m).length
 ·unfold Qh
  rw[Q48 _ _ _ B,Q42,List.set_set]
 ·unfold Qh
  rw[Qjn _ _ _ B,Qjn _ _ _ B]
theorem Qmm(m:Qqp)(i k:Int)(x:Wd)(h:i.toNat≠(mF m).toNat):Qv (Qh m i k x)=Qh (Qv m) i k x:=by
 unfold Qh Qv;rw[Q2v _ _ _ _ h,Y8,if_neg (λe=>h e.1.symm)]
theorem Qlo{m:Qqp}{l:List Nat}(h:Yf m l){i k:Int}{x:Wd}(B:i.toNat∉l):Yf (Qh m i k x) l:=h.put _ B
theorem Qng{α β:Type}{f:β->α->β}{P:α->Prop}(O:∀x y,P x->P y->∀m,f (f m x) y=f (f m y) x)(S:∀x,P x->∀m,f (f m x) x=f m x){l1 l2:List α}(F:∀x∈l1,P x)(G:∀x,x∈l1↔x∈l2)(m:β):l1.foldl f m=l2.foldl f m:=by
 have H:∀x∈l2,P x:=λx C=>F x ((G x).2 C);have J:∀(l:List α),(∀x∈l,P x)->∀x,P x->∀m,l.foldl f (f m x)=f (l.foldl f m) x:=by
  intro l;induction l with
  |nil=>intro _ _ _ _;rfl
  |cons a l ih=>intro B x C m;rw[Ce,O x a C (B a Ae),ih (λy E=>B y (Aa _ E)) x C];rfl
 have K:∀(l:List α),(∀x∈l,P x)->∀x∈l,∀m,f (l.foldl f m) x=l.foldl f m:=by
  intro l;induction l with
  |nil=>intro _ _ h;cases h
  |cons a l ih=>
   intro B x C m;have L:∀y∈l,P y:=λy E=>B y (Aa _ E);rcases Aq.1 C with rfl|C
   ·rw[Ce,<-J l L x (B x Ae),S x (B x Ae)]
   ·rw[Ce];exact ih L x C _
 have T:∀(l:List α),(∀x∈l,x∈l2)->∀m,l.foldl f (l2.foldl f m)=l2.foldl f m:=by
  intro l;induction l with
  |nil=>intro _ _;rfl
  |cons a l ih=>intro B m;rw[Ce,K l2 H a (B a Ae)];exact ih (λy E=>B y (Aa _ E)) m
 have U:∀(l:List α),(∀x∈l,P x)->∀(k:List α),(∀x∈k,P x)->∀m,k.foldl f (l.foldl f m)=l.foldl f (k.foldl f m):=by
  intro l B k;induction k with
  |nil=>intro _ _;rfl
  |cons a k ih=>intro M m;rw[Ce,<-J l B a (M a Ae)];exact ih (λy E=>M y (Aa _ E)) _
 have V:∀m,l2.foldl f (l1.foldl f m)=l1.foldl f m:=by
  have:∀(l:List α),(∀x∈l,x∈l1)->∀m,l.foldl f (l1.foldl f m)=l1.foldl f m:=by
   intro l;induction l with
   |nil=>intro _ _;rfl
   |cons a l ih=>intro B m;rw[Ce,K l1 F a (B a Ae)];exact ih (λy E=>B y (Aa _ E)) m
  exact this l2 λx C=>(G x).2 C
 rw[<-V m,U l1 F l2 H,T l1 (λx C=>(G x).1 C)]
theorem Ja{n:Qr2}{p:Wd}:p∈Qs n↔(0<=p.1/\p.1<n.length)/\0<=p.2/\p.2<(aW (Q7 n p.1)).length:=by
 unfold Qs;constructor
 ·intro h
  obtain⟨i,B,h⟩:=Dk.1 h;obtain⟨k,C,rfl⟩:=Eh.1 h;have B:=Cy.1 B;have C:=Cy.1 C;have E:Q7 n ((i:Nat):Int)=Qn n i:=by simp[Q7]
  simp only[E];omega
 ·rintro⟨⟨G,H⟩,J,F⟩
  refine Dk.2 ⟨p.1.toNat,Cy.2 (by omega),Eh.2 ⟨p.2.toNat,Cy.2 ?_, ?_⟩⟩
  ·unfold Q7 at F;omega
  ·apply Prod.ext<;>simp only<;>omega
theorem Q1i{n:Qr2}(h:Ys n=Bn){p:Wd}(F:p∈Qs n):Qt n p∈Qs n/\Qt n p≠p/\Qt n (Qt n p)=p:=by
 unfold Ys at h;simp only[Bl]at h;have B:=Bf.1 h.2 p F;unfold Q0c Q0l at B;simp only[Bl,beq_iff_eq]at B;obtain⟨C,⟨q1,E⟩,G⟩:=B;have q1:=Ql.1 q1;have E:=Ql.1 E;refine⟨Ja.2 ⟨by omega,by omega⟩,λe=> ?_,G⟩;rw[e]at C;simp at C
theorem Q2k{n:Qr2}{w:Qqt}:w∈Yk n↔w.1∈Qs n/\Q03 w.1 (Qt n w.1)=Bn/\w.2=Qt n w.1:=by
 unfold Yk;constructor
 ·intro h
  obtain⟨p,E,rfl⟩:=Eh.1 h;obtain⟨B,C⟩:=Dn.1 E;exact⟨B,C,rfl⟩
 ·rintro⟨B,C,F⟩
  exact Eh.2 ⟨w.1,Dn.2 ⟨B,C⟩,by rw[<-F]⟩
theorem Qeb{p q:Wd}(h:q≠p):Q03 p q=Bn\/Q03 q p=Bn:=by
 obtain⟨a,b⟩:=p;obtain⟨c,d⟩:=q;unfold Q03;simp only[Gb,decide_eq_true_eq,Bl,beq_iff_eq];have:¬(a=c/\b=d):=λe=>h (by rw[e.1,e.2]);omega
def Q2h(w:Qqt):List Wd:=if 0<w.1.2/\0<w.2.2 then []else if 0<w.1.2 then [w.1]else if 0<w.2.2 then [w.2]else []
def Q9g(w:Qqt):Bool:=decide (0<w.1.2) && decide (0<w.2.2)
def Q7f(n:Qr2)(at_:List Int)(m:Qqp)(w:Qqt):Qqp:=if Q9g w then Q5m at_ m w else(Q2h w).foldl (Q78 n at_) m
theorem Qc7{n:Qr2}(h:Ys n=Bn)(p:Wd):p∈(Yk n).flatMap Q2h↔p∈(Qs n).filter (Q7b n):=by
 constructor
 ·intro B
  obtain⟨w,K,B⟩:=Dk.1 B;obtain⟨F,L,G⟩:=Q2k.1 K;obtain⟨C,H,E⟩:=Q1i h F;obtain⟨q1,M,O⟩:=Ja.1 F;obtain⟨P,S,T⟩:=Ja.1 C;unfold Q2h at B;split at B
  ·cases B
  ·split at B
   ·obtain rfl:p=w.1:=by simpa using B
    refine Dn.2 ⟨F, ?_⟩;unfold Q7b;rw[<-G]at *
    simp only[Bl,decide_eq_true_eq,beq_iff_eq];omega
   ·split at B
    ·obtain rfl:p=w.2:=by simpa using B
     rw[G]at *
     refine Dn.2 ⟨C, ?_⟩;unfold Q7b;rw[E];simp only[Bl,decide_eq_true_eq,beq_iff_eq];omega
    ·cases B
 ·intro B
  obtain⟨B,J⟩:=Dn.1 B;unfold Q7b at J;simp only[Bl,decide_eq_true_eq,beq_iff_eq]at J;obtain⟨C,H,E⟩:=Q1i h B;rcases Qeb H with hb|hb
  ·refine Dk.2 ⟨(p,Qt n p),Q2k.2 ⟨B,hb,rfl⟩, ?_⟩
   unfold Q2h;rw[if_neg (by simp only;omega),if_pos (by simp only;omega)];simp
  ·refine Dk.2 ⟨(Qt n p,p),Q2k.2 ⟨C,by rw[E];exact hb,by rw[E]⟩, ?_⟩
   unfold Q2h;rw[if_neg (by simp only;omega),if_neg (by simp only;omega),if_pos (by simp only;omega)];simp
structure Qjd (n:Qr2) (at_:List Int) (l:List Nat):Prop where
 nin:∀i,1<=i->i<n.length->(at_.getD i 0).toNat∉l
 inj:∀i j,1<=i->i<n.length->1<=j->j<n.length->i≠j->(at_.getD i 0).toNat≠(at_.getD j 0).toNat
def Q1m(n:Qr2)(p:Wd):Prop:=(1<=p.1/\p.1<n.length)/\0<p.2
theorem Qp7{n:Qr2}{at_:List Int}{l:List Nat}(h:Qjd n at_ l){p q:Wd}(B:Q1m n p)(C:Q1m n q)(E:p≠q):(at_.getD p.1.toNat 0).toNat≠(at_.getD q.1.toNat 0).toNat\/(p.2-1).toNat≠(q.2-1).toNat:=by
 obtain⟨⟨G,H⟩,J⟩:=B;obtain⟨⟨K,L⟩,M⟩:=C;by_cases e:p.1=q.1
 ·right
  have:p.2≠q.2:=λF=>E (Prod.ext e F);omega
 ·left;exact h.inj _ _ (by omega) (by omega) (by omega) (by omega) (by omega)
theorem Q9p{n:Qr2}{at_:List Int}{l:List Nat}(h:Qjd n at_ l){p q:Wd}(B:Q1m n p)(C:Q1m n q)(E:p≠q)(m:Qqp)(x y:Wd):Qak at_ (Qak at_ m p x) q y=Qak at_ (Qak at_ m q y) p x:=
 Qlx _ _ _ _ _ _ _ (Qp7 h B C E)
theorem Qn0{n:Qr2}{at_:List Int}{e:Nat}{l:List Nat}(h:Qjd n at_ (e::l)){p:Wd}(B:Q1m n p){m:Qqp}(C:mF m=(e:Int))(x:Wd):Qv (Qak at_ m p x)=Qak at_ (Qv m) p x:=by
 refine Qmm _ _ _ _ ?_;have:=h.nin p.1.toNat (by have:=B.1;omega) (by have:=B.1;omega);simp only[List.mem_cons,not_or]at this;rw[C];simp;exact this.1
theorem Qjd.tail{n:Qr2}{at_:List Int}{e:Nat}{l:List Nat}(h:Qjd n at_ (e::l)):Qjd n at_ l:=⟨λi B C E=>h.nin i B C (Aa _ E),h.inj⟩
theorem Qa1{n:Qr2}{at_:List Int}{l:List Nat}(h:Qjd n at_ l){p:Wd}(B:Q1m n p){m:Qqp}(C:Yf m l)(x:Wd):Yf (Qak at_ m p x) l:=
 Qlo C (h.nin p.1.toNat (by have:=B.1;omega) (by have:=B.1;omega))
theorem Qdm{n:Qr2}{at_:List Int}{e:Nat}{l:List Nat}(h:Qjd n at_ (e::l)){w:Qqt}(B:Q1m n w.1/\Q1m n w.2){m:Qqp}(C:Yf m (e::l)):Yf (Q5m at_ m w) l:=
 Qa1 h.tail B.2 (Qa1 h.tail B.1 (C.take Z5).1 _) _
theorem Qji{n:Qr2}{at_:List Int}{e:Nat}{l:List Nat}(h:Qjd n at_ (e::l)){w:Qqt}(C:Q1m n w.1/\Q1m n w.2){p:Wd}(B:Q1m n p)(E:p≠w.1)(F:p≠w.2){m:Qqp}(G:Yf m (e::l))(x:Wd):Q5m at_ (Qak at_ m p x) w=Qak at_ (Q5m at_ m w) p x:=by
 have H:mF (Qak at_ m p x)=mF m:=rfl;unfold Q5m;rw[H,Qn0 h B (G.take Z5).2.1,Q9p h.tail B C.1 E,Q9p h.tail B C.2 F]
theorem Qev{n:Qr2}{at_:List Int}{p:Wd}(E:Q1m n p)(x:Wd):∀(B:List Qqt) (l:List Nat) (m:Qqp),Qjd n at_ l->Yf m l->B.length<=l.length->(∀w∈B,(Q1m n w.1/\Q1m n w.2)/\p≠w.1/\p≠w.2)->B.foldl (Q5m at_) (Qak at_ m p x)=Qak at_ (B.foldl (Q5m at_) m) p x
 | [],_,_,_,_,_,_=>rfl
 |w::B,l,m,ha,hf,hl,hI=>by
  obtain⟨e,C,rfl⟩:∃e C,l=e::C:=by
   match l,(show 0<l.length by simp only[Bs]at hl;omega)with
   |e::C,_=>exact⟨e,C,rfl⟩
  obtain⟨F,G,H⟩:=hI w Ae;rw[Ce,Qji ha F E G H hf];exact Qev E x B C _ ha.tail (Qdm ha F hf) (by simp only[Bs]at hl;omega) (λv J=>hI v (Aa _ J))
theorem Q6d{n:Qr2}{at_:List Int}:∀(L:List Qqt) (l:List Nat) (m:Qqp),Qjd n at_ l->Yf m l->(L.filter Q9g).length<=l.length->(∀w∈L,Q9g w=Bn->Q1m n w.1/\Q1m n w.2)->(∀w∈L,∀p∈Q2h w,Q1m n p)->(∀w∈L,∀p∈Q2h w,∀v∈L,Q9g v=Bn->p≠v.1/\p≠v.2)->
  L.foldl (Q7f n at_) m=(L.flatMap Q2h).foldl (Q78 n at_) ((L.filter Q9g).foldl (Q5m at_) m)
 | [],_,_,_,_,_,_,_,_=>rfl
 |w::L,l,m,ha,hf,hl,h1,h2,h3=>by
  have H:∀v∈L,Q9g v=Bn->Q1m n v.1/\Q1m n v.2:=λv C=>h1 v (Aa _ C);have J:∀v∈L,∀p∈Q2h v,Q1m n p:=λv C=>h2 v (Aa _ C);have K:∀v∈L,∀p∈Q2h v,∀u∈L,Q9g u=Bn->p≠u.1/\p≠u.2:=λv C p E u T=>h3 v (Aa _ C) p E u (Aa _ T);rw[Ce];by_cases B:Q9g w=Bn
  ·have U:Q2h w=[]:=by
    unfold Q9g at B;simp only[Bl,decide_eq_true_eq]at B;unfold Q2h;rw[if_pos B]
   rw[List.filter_cons_of_pos B,Gq,U,List.nil_append,Ce];rw[List.filter_cons_of_pos B]at hl;obtain⟨e,F,rfl⟩:∃e F,l=e::F:=by
    match l,(show 0<l.length by simp only[Bs]at hl;omega)with
    |e::F,_=>exact⟨e,F,rfl⟩
   have G:Q7f n at_ m w=Q5m at_ m w:=by unfold Q7f;rw[if_pos B]
   rw[G];exact Q6d L F _ ha.tail (Qdm ha (h1 w Ae B) hf) (by simp only[Bs]at hl;omega) H J K
  ·have G:Q7f n at_ m w=(Q2h w).foldl (Q78 n at_) m:=by unfold Q7f;rw[if_neg B]
   rw[List.filter_cons_of_neg B]at hl;rw[List.filter_cons_of_neg B,Gq,List.foldl_append,G];have M:∀p∈Q2h w,Q1m n p/\∀v∈L.filter Q9g,(Q1m n v.1/\Q1m n v.2)/\p≠v.1/\p≠v.2:=λp E=>⟨h2 w Ae p E,λv C=>by obtain⟨v1,O⟩:=Dn.1 C;exact⟨H v v1 O,h3 w Ae p E v (Aa _ v1) O⟩⟩;have P:Yf ((Q2h w).foldl (Q78 n at_) m) l/\(L.filter Q9g).foldl (Q5m at_) ((Q2h w).foldl (Q78 n at_) m)=(Q2h w).foldl (Q78 n at_) ((L.filter Q9g).foldl (Q5m at_) m):=by
    clear G h1 h2 h3 B;generalize Q2h w=S at *
    induction S generalizing m with
    |nil=>exact⟨hf,rfl⟩
    |cons a S ih=>
     have q:=M a Ae;have V:Yf (Q78 n at_ m a) l:=Qa1 ha q.1 hf _;obtain⟨W,X⟩:=ih (Q78 n at_ m a) V (λp E=>M p (Aa _ E));refine⟨W, ?_⟩;rw[Ce,X,Ce];congr 1
     exact Qev q.1 _ _ l m ha hf hl q.2
   rw[Q6d L l _ ha P.1 hl H J K,P.2]
theorem Q6h{n:Qr2}(h:Ys n=Bn):1<=n.length/\(aW (Qn n 0)).length=1:=by
 obtain⟨⟨-,E⟩,G,-,-⟩:=Y5 h;refine⟨E, ?_⟩;unfold Ys Jm at h;simp only[Bl]at h;have C:=Bf.1 h.1.2 0 (Cy.2 (by omega));simp only[Bl]at C;have F:aK (Qn n 0)=1:=by simpa using C.2
 have B:=C.1;unfold Yc at B;rw[F]at B;simp only[Bl,beq_iff_eq]at B;have:=B.1.1.2;simp[Q1l,Q0b]at this;omega
theorem Q71{n:Qr2}(h:Ys n=Bn){p:Wd}(E:p∈Qs n)(B:p.1=0):p=(0,0):=by
 obtain⟨-,F,C⟩:=Ja.1 E;have:=(Q6h h).2;rw[B]at C;have:p.2<1:=by have e:Q7 n 0=Qn n 0:=rfl;rw[e]at C;omega
 exact Prod.ext B (by show p.2=0;omega)
theorem Q6g{n:Qr2}(h:Ys n=Bn){p:Wd}(C:p∈Qs n)(B:0<p.2):Q1m n p:=by
 obtain⟨⟨a,b⟩,-,-⟩:=Ja.1 C;refine⟨⟨?_,b⟩,B⟩;by_cases e:p.1=0
 ·have:=Q71 h C e
  rw[this]at B;simp at B
 ·omega
theorem Vw(at_:List Int)(b:Int){i:Nat}(h:1<=i):(at_.set 0 b).getD i 0=at_.getD i 0:=by
 rw[Ab,Ab,List.getElem?_set_ne (by omega)]
theorem Qj3(at_:List Int)(b:Int)(h:0<at_.length):(at_.set 0 b).getD 0 0=b:=by
 rw[Ab,Ik h];rfl
theorem Qlr{n:Qr2}(h:Ys n=Bn){at_:List Int}{b:Int}(V:0<at_.length)(s:Qqp×Wd){w:Qqt}(P:w∈Yk n):(Y7 at_ (1,b) s w).1=Q7f n (at_.set 0 b) s.1 w:=by
 obtain⟨C,K,G⟩:=Q2k.1 P;obtain⟨H,W,L⟩:=Q1i h C;rw[<-G]at H W L;obtain⟨⟨l,m⟩,o,X⟩:=Ja.1 C;obtain⟨⟨p,q⟩,r,Y⟩:=Ja.1 H;rw[<-G]at K;have d:=Q71 h C;have t:=Q6g h C;have e:=Q6g h H;have f:Qt n w.1=w.2:=G.symm;obtain⟨⟨a,g⟩,⟨c,E⟩⟩:=w;simp only at *
 clear C H P G X Y;unfold Q03 at K;simp only[Gb,decide_eq_true_eq,Bl,beq_iff_eq]at K;by_cases S:a=0
 ·have T:=d S
  simp only[Prod.mk.injEq]at T;obtain⟨rfl,rfl⟩:=T;by_cases B:E=0
  ·subst B
   simp[Y7,Q7f,Q9g,Q2h]
  ·have i:=(e (by omega)).1
   have j:(E==0)=Bm:=by simpa using B
   have k:0<E:=by omega
   have U:=Vw at_ b (show 1<=c.toNat by have:(1:Int)<=c:=i.1;omega);rw[Ab,Ab]at U;simp[Y7,Q7f,Q9g,Q2h,j,k,Q78,Qak,L];rw[Ik V,U];rfl
 ·have J:(a==0)=Bm:=by simpa using S
  have M:=Vw at_ b (show 1<=a.toNat by omega);have O:=Vw at_ b (show 1<=c.toNat by omega);by_cases B:0<g
  ·by_cases F:0<E
   ·unfold Y7 Q7f Q9g Q5m Qak
    simp only[J,B,F,decide_true,Bool.and_self,Cn,Cv,if_false,if_true,M,O]
   ·unfold Y7 Q7f Q9g Q2h
    simp only[J,B,F,decide_true,decide_false,Dp,Cn,Cv,if_false,if_true,and_false,Ce,List.foldl_nil,Q78,Qak,f,M,O]
  ·by_cases F:0<E
   ·unfold Y7 Q7f Q9g Q2h
    simp only[J,B,F,decide_true,decide_false,Bool.and_true,Dp,Cn,Cv,if_false,if_true,and_true,Ce,List.foldl_nil,Q78,Qak,L,M,O]
   ·unfold Y7 Q7f Q9g Q2h
    simp only[J,B,F,decide_false,Dp,Cn,Cv,if_false,and_false,List.foldl_nil]
theorem Qki(at_:List Int)(B:Wd)(s:Qqp×Wd)(w:Qqt):(Y7 at_ B s w).2=if w.1.1==0 then(if w.2.2==0 then((1:Int),at_.getD w.2.1.toNat 0)else B)else s.2:=by
 unfold Y7;simp only[];cases h1:(w.1.1==0)<;>cases h2:(w.2.2==0)
 ·simp only[Cn,Cv,if_false]
  repeat' split
  all_goals rfl
 ·simp only[Cn,Cv,if_false]
  repeat' split
  all_goals rfl
 ·simp
 ·simp
theorem Qbh{n:Qr2}(h:Ys n=Bn){at_:List Int}{b:Int}(E:0<at_.length)(v:Wd)(F:v=if(Qt n (0,0)).2==0 then((1:Int),at_.getD (Qt n (0,0)).1.toNat 0)else(1,b)):∀(L:List Qqt) (s:Qqp×Wd),(∀w∈L,w∈Yk n)->
  (L.foldl (Y7 at_ (1,b)) s).1=L.foldl (Q7f n (at_.set 0 b)) s.1/\((L.foldl (Y7 at_ (1,b)) s).2=v\/(L.foldl (Y7 at_ (1,b)) s).2=s.2)/\((∃w∈L,w.1.1=0)->(L.foldl (Y7 at_ (1,b)) s).2=v)
 | [],_,_=>⟨rfl,.inr rfl,λ⟨_,h,_⟩=>by cases h⟩
 |w::L,s,hL=>by
  have G:=hL w Ae;obtain⟨K,B,M⟩:=Qbh h E v F L (Y7 at_ (1,b) s w) (λu C=>hL u (Aa _ C));have H:=Qki at_ (1,b) s w;obtain⟨O,-,P⟩:=Q2k.1 G;have J:w.1.1=0->(Y7 at_ (1,b) s w).2=v:=λe=>by have:=Q71 h O e;rw[H,e,F,P,this];rfl
  rw[Ce,Ce];refine⟨by rw[K,Qlr h E s G], ?_, ?_⟩
  ·rcases B with B|B
   ·exact .inl B
   ·by_cases e:w.1.1=0
    ·exact .inl (B.trans (J e))
    ·right
     rw[B,H,if_neg (by simpa using e)]
  ·rintro⟨u,C,e⟩
   rcases Aq.1 C with rfl|C
   ·rcases B with B|B
    ·exact B
    ·exact B.trans (J e)
   ·exact M ⟨u,C,e⟩
theorem Qax{at_ at':List Int}:∀(L:List Wd) (m:Qqp),(∀p∈L,at'.getD p.1.toNat 0=at_.getD p.1.toNat 0/\at'.getD p.2.toNat 0=at_.getD p.2.toNat 0)->L.foldl (λm p=>Yu m (at'.getD p.1.toNat 0) (at'.getD p.2.toNat 0)) m=L.foldl (λm p=>Yu m (at_.getD p.1.toNat 0) (at_.getD p.2.toNat 0)) m
 | [],_,_=>rfl
 |p::L,m,h=>by rw[Ce,Ce,(h p Ae).1,(h p Ae).2];exact Qax L _ λq B=>h q (Aa _ B)
theorem Qhh{n:Qr2}(h:Ys n=Bn){m:Qqp}{l:List Nat}(O:Yf m l)(hl:n.length-1+(Zv n).length<=l.length){b:Int}(A7:0<=b)(G:b.toNat∉l)(bk:List Qr2)(x:Qb)(a:Y4 bk (aV x)=n):Q3z n (aL x) m b=Vo bk m x b:=by
 obtain⟨A8,A9⟩:=Q6h h;have c:=Jw.nodup O;obtain⟨d,t2,S⟩:=Qc1 (n:=n) (by_:=aL x) O (n.length-1) (by omega);have f:0<(Qqi n (aL x) m (n.length-1)).length:=by rw[Qca];omega
 have J:∀i,1<=i->i<n.length->((Qqi n (aL x) m (n.length-1)).set 0 b).getD i 0=((l.getD (i-1) 0:Nat):Int)/\l.getD (i-1) 0∉l.drop (n.length-1):=λi H K=>by rw[Vw _ _ H];obtain⟨k,rfl⟩:∃k,i=k+1:=⟨i-1,by omega⟩;rw[Qkk n (aL x) m (by omega)];exact⟨(S k (by omega)).1,(S k (by omega)).2.2.1⟩
 have T:Qjd n ((Qqi n (aL x) m (n.length-1)).set 0 b) (l.drop (n.length-1)):=⟨λi H K=>by rw[(J i H K).1,By];exact(J i H K).2,λi j H K g o AA=>by rw[(J i H K).1,(J j g o).1,By,By];exact Q7a c (by omega) (by omega) (by omega)⟩;have r:Vo bk m x b=(let s:=V5 n (aL x) (1,b) m;if s.2.2 !=b then Yu s.1 b s.2.2 else s.1):=by unfold Vo;rw[show Vo.netOf' bk (aV x)=n from a]
 rw[r];unfold Q3z V5;simp only[];obtain⟨v,L⟩:∃v:Wd,v=if(Qt n (0,0)).2==0 then((1:Int),(Qqi n (aL x) m (n.length-1)).getD (Qt n (0,0)).1.toNat 0)else(1,b):=⟨_,rfl⟩;obtain⟨w1,-,t⟩:=Qbh h f v L (Yk n) (Q00 n (aL x) m (n.length-1),(0,0)) (λ_ h=>h);have U:((0:Int),(0:Int))∈Qs n:=Ja.2 ⟨⟨by simp,by simp;omega⟩,by simp,by show(0:Int)<((aW (Qn n 0)).length:Int);omega⟩;obtain⟨y,V,r3⟩:=Q1i h U;obtain⟨⟨q1,q2⟩,q3,q4⟩:=Ja.1 y;have z:Q03 ((0:Int),(0:Int)) (Qt n (0,0))=Bn:=by
  rcases Qeb V with G|G
  ·exact G
  ·unfold Q03 at G
   simp only[Gb,decide_eq_true_eq,Bl,beq_iff_eq]at G;omega
 have A0:(((0:Int),(0:Int)),Qt n (0,0))∈Yk n:=Q2k.2 ⟨U,z,rfl⟩;have A1:=t ⟨(((0:Int),(0:Int)),Qt n (0,0)),A0,rfl⟩;rw[w1,A1]
 have A2:=Q6d (at_:=(Qqi n (aL x) m (n.length-1)).set 0 b) (Yk n) _ _ T d (by rw[Df];show(Zv n).length<=_;omega)
  (λw M E=>by obtain⟨F,-,k3⟩:=Q2k.1 M;unfold Q9g at E;simp only[Bl,decide_eq_true_eq]at E;exact⟨Q6g h F E.1,Q6g h (by rw[k3];exact(Q1i h F).1) E.2⟩)
  (λw M p C=>by have:=(Qc7 h p).1 (Dk.2 ⟨w,M,C⟩);obtain⟨F,B⟩:=Dn.1 this;unfold Q7b at B;simp only[Bl,decide_eq_true_eq]at B;exact Q6g h F B.1)
  (λw M p C u hu E=>by
   have:=(Qc7 h p).1 (Dk.2 ⟨w,M,C⟩);obtain⟨F,B⟩:=Dn.1 this;unfold Q7b at B;simp only[Bl,decide_eq_true_eq,beq_iff_eq]at B;obtain⟨u1,-,W⟩:=Q2k.1 hu;unfold Q9g at E;simp only[Bl,decide_eq_true_eq]at E;refine⟨λe=> ?_,λe=> ?_⟩
   ·rw[e,<-W]at B;omega
   ·rw[e,W,(Q1i h u1).2.2]at B;omega)
 rw[A2];have A3:((Yk n).flatMap Q2h).foldl (Q78 n ((Qqi n (aL x) m (n.length-1)).set 0 b)) (((Yk n).filter Q9g).foldl (Q5m ((Qqi n (aL x) m (n.length-1)).set 0 b)) (Q00 n (aL x) m (n.length-1)))=((Qs n).filter (Q7b n)).foldl (Q78 n ((Qqi n (aL x) m (n.length-1)).set 0 b)) (((Yk n).filter Q9g).foldl (Q5m ((Qqi n (aL x) m (n.length-1)).set 0 b)) (Q00 n (aL x) m (n.length-1))):=by
  refine Qng (P:=Q1m n) (λp q C X m=> ?_) (λp C m=> ?_) (λp C=> ?_) (Qc7 h) _
  ·by_cases e:p=q
   ·rw[e]
   ·exact Q9p T C X e _ _ _
  ·exact Qkv _ _ _ _
  ·obtain⟨F,B⟩:=Dn.1 ((Qc7 h p).1 C)
   unfold Q7b at B;simp only[Bl,decide_eq_true_eq]at B;exact Q6g h F B.1
 rw[A3];have A4:(Yk n).filter Q9g=Zv n:=rfl;rw[A4];rw[Qax (at_:=Qqi n (aL x) m (n.length-1)) (at':=(Qqi n (aL x) m (n.length-1)).set 0 b) (Yd n) _ (λp C=>by unfold Yd at C;obtain⟨i,E,rfl⟩:=Eh.1 C;have A5:=(Dn.1 E).2;simp only[Bl,bne_iff_ne,decide_eq_true_eq,beq_iff_eq]at A5;exact⟨Vw _ _ (by simp only;omega),Vw _ _ (by simp only;omega)⟩)];cases ht:((Qt n (0,0)).2==0)with
 |true=>
  rw[ht,if_pos rfl]at L;have A6:(Qt n (0,0)).2=0:=by simpa using ht
  have X:1<=(Qt n (0,0)).1:=by
   by_cases e:(Qt n (0,0)).1=0
   ·exact absurd (Prod.ext e A6) V
   ·omega
  have Y:=J (Qt n (0,0)).1.toNat (by omega) (by omega);rw[Vw _ _ (by omega)]at Y⊢;rw[if_pos rfl,L,if_pos];simp only[bne_iff_ne];intro e;rw[Y.1]at e;refine G ?_;rw[<-e,By,Ab,Ad (by omega)];exact As _
 |false=>rw[ht,if_neg (by simp)]at L;rw[if_neg (by simp),L];simp
def Q9a(l:Int)(x:Qb):Qb:=(aK x,(if Y1 (aK x)then aL x+l else aL x),aV x,aD x,aW x)
theorem Qlp{l:Int}{x:Qb}(h:Y1 (aK x)=Bm):Q9a l x=x:=by unfold Q9a;rw[h];rfl
def Q0w(n:Qr2)(l:Int)(j:Nat):Qr2:=(Yq n l).take j++n.drop j
theorem Qdl(n:Qr2)(l:Int):Q0w n l 0=n:=by simp[Q0w]
theorem Qf9{n:Qr2}{l:Int}{j:Nat}(h:j<=n.length):(Q0w n l j).length=n.length:=by
 unfold Q0w;rw[List.length_append,Cj,Df,Ym];omega
theorem Qg9{n:Qr2}{l:Int}{j:Nat}(h:j<n.length)(C:j<(Q0w n l j).length):(Q0w n l j)[j]=n[j]:=by
 have B:((Yq n l).take j).length=j:=by rw[Cj,Ym];omega
 have:(Q0w n l j)[j]?=R n[j]:=by unfold Q0w;rw[List.getElem?_append_right (by omega),B,Gp,List.getElem?_drop,Nat.add_zero,Ad h]
 exact(List.getElem?_eq_some_iff.1 this).2
theorem Qe2{n:Qr2}{l:Int}{j:Nat}(h:j<n.length):Q0w n l (j+1)=(Q0w n l j).set j (Q9a l n[j]):=by
 have B:((Yq n l).take j).length=j:=by rw[Cj,Ym];omega
 have C:(Yq n l)[j]'(by rw[Ym];exact h)=Q9a l n[j]:=by unfold Yq Q9a;rw[List.getElem_map]
 unfold Q0w;rw[An (by rw[Ym];exact h),C,List.set_append_right _ _ (by omega),B,Gp,List.drop_eq_getElem_cons h,List.set_cons_zero,List.append_assoc];rfl
theorem Qd9{n:Qr2}{l:Int}{j:Nat}(h:n.length<=j):Q0w n l j=Yq n l:=by
 unfold Q0w;rw[Ao (by rw[Ym];exact h),List.drop_of_length_le h,List.append_nil]
def Qql(l:Int)(x:Qb):Bool:= !(Y1 (aK x))||decide (aL x+l<=8)
def Vn(n:Qr2)(l:Int):Bool:=n.all (Qql l)
theorem Q2p(w:World)(vs:List Value)(n:List Qb)(l:Int)(h:Rd Je w vs n)(hn:n.length<=1000000)(hz:∀x∈n,(aD x).length<=100000000/\(aW x).length<=100000000)(A7:∀x∈n,Y1 (aK x)=Bn-> -1000<=aL x/\aL x<=1000)(hl: -1000<=l/\l<=1000):
  Calls prog 241 #[.agg vs.toArray,I Z l] w λe w'=>∃(p:Option Addr) (m c:Nat),e=.returned (.tuple #[.agg #[A p m c],.bool (Vn n l)])/\(Vn n l=Bn->Qqa Je w.heap.size w' [A p m c] (Yq n l))/\Bi w.heap.size w w':=by
 obtain⟨pn,cn,rfl,-,-,hr⟩:=J6 h;have HN:=qh hr;have HZ:=qh hz;have AP:=qh A7;have B3:(n.length:Int)<=9223372036854775807:=by omega
 clear h hr hz A7;go_enter func241,ntmps241;go_upto_region 1 with fail
 refine Qq ?_;intro W Y;have A8:D (Bi w.heap.size w W):=qh (by rw[Y];go_grown);have a:=Jn w #[A pn n.length cn] #[A N 0 0] 71 71;rw[<-Y]at a;have AQ:=qh a.2;have a0:W.cell? ⟨w.heap.size,0,N⟩=R (A pn n.length cn):=Q8 a.1 rfl;have hs:W.heap.size=w.heap.size+1+1:=by rw[Y];simp
 clear Y a;go_upto_region 2 with((go_at_call 263;(with_reducible refine(Qhq W [A pn n.length cn] n (HN.o.kept (Am A8.o)) hn HZ.o).mono ?_);rintro e w1 ⟨us,rfl,f,P⟩;obtain⟨u,rfl⟩:=Qe4 (let ⟨F,o,_⟩:=f;o.length);obtain⟨H,E,rfl⟩:=Jo f;have AR:=qh f;have A4:=qh P;clear f P))
 refine Qq ?_;intro J g;have A5:D (Bi w1.heap.size w1 J):=qh (by rw[g];go_grown);have A9:D (J.heap[w1.heap.size]?=R (.cells #[A H n.length E] 71 (0,0))):=qh (by rw[g];exact heap_alloc_new w1 _);have B4:=A4.o.size;have B5:J.heap.size=w1.heap.size+1:=by rw[g];simp
 obtain⟨F,K,AA,L⟩:=AR.o;have HO:D (Ow (.slice Q3) J [A H n.length E] n F):=qh (K.kept λb P=>A5.o.block b (L b P).2);have AB:=qh AA;have AS:=qh L;have s:D (Bi w.heap.size w J):=qh (Q0 (Q0 A8.o A4.o) A5.o);have AT:D (J.heap[w.heap.size+1]?=R (.cells #[A N 0 0] 71 (0,0))):=qh (Qe (Qe AQ.o A4.o) A5.o);have x2:J.cell? ⟨w1.heap.size,0,N⟩=R (A H n.length E):=Q8 A9.o rfl;clear g K AA L a0;go_wp2_with fail
 go_loopw [7,8,14] (λ_ _ i wr=>∃(j:Nat),j<=n.length/\i=I Z j/\D (Ow (.slice Q3) wr [A H n.length E] (Q0w n l j) F)/\D ((n.take j).all (Qql l)=Bn)/\D (Q1 (λc=>c∈F) J wr)) (λ_ _ i _=>n.length-(Bv i).toNat);case atStart=>exact⟨0,Ak _,rfl,(show Ow _ _ _ _ _ by rw[Qdl];exact HO.o),rfl,Q1.refl _ _⟩
 case round=>
  obtain⟨j,hj,rfl,AC,A6,S⟩:=hrel;have B6:=S.o.size;have M:D (∀b∈F,w.heap.size+1<b/\b<w1.heap.size):=qh (λb P=>by have:=AS.o b P;omega);have AD:wr.heap[w1.heap.size]?=R (.cells #[A H n.length E] 71 (0,0)):=(S.o.block _ (by omega) (λhm=>by have:=M.o _ hm;omega)).trans A9.o;have x0:wr.cell? ⟨w1.heap.size,0,N⟩=R (A H n.length E):=Q8 AD rfl;have t:wr.heap[w.heap.size+1]?=R (.cells #[A N 0 0] 71 (0,0)):=(S.o.block _ (by omega) (λhm=>by have:=M.o _ hm;omega)).trans AT.o;have r0:wr.cell? ⟨w.heap.size+1,0,N⟩=R (A N 0 0):=Q8 t rfl;have rf:wr.frozen? ⟨w.heap.size+1,0,N⟩=Bm:=Q0f.free ⟨_,t⟩ 0;have AE:=Zb t;have AU:D (Bi w.heap.size w wr):=qh (s.o.trans (S.o.below (by have:=s.o.size;omega) (λc B=>by have:=M.o _ B;omega)));clear AD t;by_cases T:j<n.length
  ·obtain⟨b,o,us,G,rfl,AF,B7,AG,hG,y,AV,z,AH,A0,A1⟩:=Ow.focus AC.o AB.o j (by rw[Qf9 hj];exact T)
   rw[Qg9 T]at A0;have AI:=qh (Qe2 (l:=l) T);have AW:=qh (AP.o n[j] (As T));have AJ:D ((n.take (j+1)).all (Qql l)=((n.take j).all (Qql l) && Qql l n[j])):=qh (by rw[An T,List.all_append];simp);have AX:D (Qql l n[j]=Bm->Vn n l=Bm):=qh (λh=>by unfold Vn;rw[List.all_eq_false];exact⟨n[j],As T,by rw[h];simp⟩);generalize n[j]=x at *
   have AY:=qh (A1 wr _ _ (Q1.refl _ _) (Q9.refl _ _ _ _) z A0);obtain⟨pd,cd,pw,cw,Gd,Gw,rfl,rfl,U,V,i1,i2,i3⟩:=A0.agent;obtain⟨k,C,v,d,ws⟩:=x;simp only[aK,aL,aV,aD,aW]at U V i1 i2 i3 z;obtain⟨u0,u1,u2,u3,u4⟩:=Q4b z;have AK:D (∀q:Int,Qqm q->Ow (.slice Q3) (wr.setCell ⟨b,o+j * 5+1,N⟩ (I Z q)) [A (R ⟨b,o,N⟩) n.length E] ((Q0w n l j).set j (k,q,v,d,ws)) F):=qh (λq hq=>by
    have hf:=Ze wr b (o+j * 5+1) (I Z q);have k5:∀r,r≠o+j * 5+1->(wr.setCell ⟨b,o+j * 5+1,N⟩ (I Z q)).cell? ⟨b,r,N⟩=wr.cell? ⟨b,r,N⟩:=λr hr=>World.cell?_setCell_other _ _ _ _ (by intro e;simp only[Addr.mk.injEq,and_true,true_and]at e;omega);refine A1 _ [I Z k,I Z q,I Z v,A pd d.length cd,A pw ws.length cw] _ (hf.mono λ_ h=> .inl h) ((Q9.refl _ _ _ _).set _ (by simp only[Ty.sz,Bj];omega) _) ?_ ?_
    ·exact Q11 ((k5 _ (by simp only[Ty.sz,Bj];omega)).trans u0) (Bw _ _ _ u1) ((k5 _ (by simp only[Ty.sz,Bj];omega)).trans u2) ((k5 _ (by simp only[Ty.sz,Bj];omega)).trans u3) ((k5 _ (by simp only[Ty.sz,Bj];omega)).trans u4)
    ·exact Ow.mkAgent i1 hq i3 (U.frame hf λc B=>⟨U.lt c B,λe=>y (e▸Ag _ B)⟩) (V.frame hf λc B=>⟨V.lt c B,λe=>y (e▸Af _ B)⟩))
   have HC:=qh A1;have B8:=qh AG;have AL:=qh AF;have HD:=qh U;have B9:=qh V;have HI:D (Qqm k/\Qqm v):=qh (⟨i1,i3⟩);have BA:D (∀c∈Gd++Gw,c≠b):=qh (λc B e=>y (e▸B));have BB:=AH (o+j * 5+1);simp only[Ty.sz,Bj]at u0 u1;clear A1 AG AF hG y AV z AH A0 U V i1 i2 i3 u2 u3 u4;have BC:(j:Int)<n.length:=by omega
   have BD:(0:Int)<=j:=by omega
   cases hk:Y1 k
   ·have X:=qh hk
    clear hk;go_wp2_with((go_at_call 258;(with_reducible refine(Q40 _ k).mono ?_);rintro e w5 ⟨rfl,rfl⟩;rw[X.o]))
    go_roundw;case rel=>exact⟨j+1,by omega,by go_num,(show Ow _ _ _ _ _ by rw[AI.o,Qlp (x:=(k,C,v,d,ws)) X.o];exact AY.o),(show _=_ by rw[AJ.o,A6.o,show Qql l (k,C,v,d,ws)=Bn by unfold Qql;rw[show Y1 (aK (k,C,v,d,ws))=Bm from X.o];rfl];rfl),S.o⟩
    case measure=>simp[Bv];omega
   ·have X:=qh hk
    obtain⟨v1,v2⟩:=AW.o hk;simp only[aL]at v1 v2;have BE:IntKind.i64.wrap (C+l)=C+l:=by simp only[IntKind.wrap_i64];omega
    have AM:D (Qql l (k,C,v,d,ws)=decide (C+l<=8)):=qh (by unfold Qql;rw[show Y1 (aK (k,C,v,d,ws))=Bn from hk];rfl);have AZ:D (Q9a l (k,C,v,d,ws)=(k,C+l,v,d,ws)):=qh (by unfold Q9a;rw[show Y1 (aK (k,C,v,d,ws))=Bn from hk];rfl);clear hk;go_upto_region 8 with((go_at_call 258;(with_reducible refine(Q40 _ k).mono ?_);rintro e w5 ⟨rfl,rfl⟩;rw[X.o]))
    refine Qq ?_;intro O A2;have BF:w.heap.size+1<b/\b<w1.heap.size:=M.o b AL.o;have A3:Q1 (λc=>c=b) wr O:=by rw[A2];exact Ze _ _ _ _
    have u5:O.cell? ⟨b,o+j * 5+1,N⟩=R (I Z (C+l)):=by rw[A2];exact Bw _ _ _ u1
    have r5:O.cell? ⟨w.heap.size+1,0,N⟩=R (A N 0 0):=(A3.cell AE (by omega) 0).trans r0;have BG:O.frozen? ⟨w.heap.size+1,0,N⟩=Bm:=(A3.frozen AE (by omega) 0).trans rf;have B0:D (Ow (.slice Q3) O [A (R ⟨b,o,N⟩) n.length E] (Q0w n l (j+1)) F):=qh (by rw[A2,AI.o,AZ.o];exact AK.o _ (by unfold Qqm;omega));have AN:D (Q1 (λc=>c∈F) J O):=qh (S.o.trans (A3.mono λc B=>by have h:c=b:=B;rw[h];exact AL.o));clear A3 A2 u0 u1 r0 rf x0 HC AK;by_cases q8:8<C+l
    ·have HF:=qh (AX.o (by rw[AM.o];simp;omega))
     go_wp2_with fail
     have s0:=Bw O ⟨w.heap.size+1,0,N⟩ (A N 0 0) r5;refine bodyPost_ret (v:=.tuple #[.agg #[A N 0 0],.bool Bm]) (by simp[results,results241,go_sem,s0]) rfl ?_;refine⟨N,0,0,by rw[HF.o],λh=>(by rw[HF.o]at h;cases h), ?_⟩;exact(s.o.trans (AN.o.below (by have:=s.o.size;omega) (λc B=>by have:=M.o _ B;omega))).setCell (p:=⟨w.heap.size+1,0,N⟩) (by simp only;omega) _
    ·go_wp2_with fail
     go_roundw;case rel=>exact⟨j+1,by omega,by go_num,B0.o,(show _=_ by rw[AJ.o,A6.o,AM.o];simp;omega),AN.o⟩
     case measure=>simp[Bv];omega
  ·have AO:n.length<=j:=by omega
   have B1:=qh (Qd9 (l:=l) AO);have B2:D (Vn n l=Bn):=qh (by have:=A6.o;rw[Ao AO]at this;exact this);go_wp2_with fail
   have s0:=Bw wr ⟨w.heap.size+1,0,N⟩ (A H n.length E) r0;have L:=Q16 (o:=0) (v:=A H n.length E) (Q1.refl (λc=>c=w.heap.size+1) wr);refine bodyPost_ret (v:=.tuple #[.agg #[A H n.length E],.bool Bn]) (by simp[results,results241,go_sem,s0]) rfl ?_;refine⟨H,n.length,E,by rw[B2.o],λ_=> ?_,AU.o.trans (L.below (by omega) (λc B=>by omega))⟩;have K:=AC.o;rw[B1.o]at K;exact⟨F,K.frame L (λc B=>⟨K.lt c B,λe=>by have:=M.o c B;omega⟩),AB.o,λc B=>⟨by have:=M.o c B;omega,Ap (K.lt c B) L.size⟩⟩
def Q3g(n:List Qb)(p:Wd):Bool:=Q03 p (Qt n p) && (decide (0<p.2) && decide (0<(Qt n p).2))
def Q5h(n:List Qb)(l:List Wd):List Qqt:=(l.filter (Q3g n)).map λp=>(p,Qt n p)
theorem Qiu(n:List Qb):Q5h n (Qs n)=Zv n:=by
 unfold Q5h Zv Yk;rw[List.filter_map,List.filter_filter];congr 1
 apply List.filter_congr;intro p _;simp[Q3g,Function.comp,Bool.and_comm,Bool.and_left_comm]
theorem Qfn(n:List Qb){l:List Wd}{j:Nat}(h:j<l.length):Q5h n (l.take (j+1))=Q5h n (l.take j)++(if Q3g n l[j]then [(l[j],Qt n l[j])]else []):=by
 unfold Q5h;rw[An h,List.filter_append,List.map_append];congr 1
 cases hh:Q3g n l[j]<;>simp[hh]
theorem Qir(n:List Qb)(l:List Wd)(j:Nat):(Q5h n (l.take j)).length<=l.length:=by
 unfold Q5h;rw[List.length_map];refine Au (List.length_filter_le _ _) ?_;rw[Cj];omega
theorem Qhd(w:World)(b o:Nat)(n:List Qb)(h:At Je w b o n)(g:Ys n=Bn):
  Calls prog 239 #[.pointer (R ⟨b,o,N⟩)] w λe w'=>∃v,e=.returned v/\Qqe Qu 272 w.heap.size w' v (Zv n)/\Bi w.heap.size w w':=by
 obtain⟨⟨AT,AU⟩,-,-,k⟩:=Y5 g;have HV:=qh g;have HA:=qh h;have AC:=k.2.1;have AV:=qh k;clear h g k;obtain⟨i0,AD,AE,AF,AG⟩:=info_parts Qbg;go_enter func239,ntmps239;go_upto_region 3 with((go_at_call 156;(with_reducible refine(Qc9 _ _ _ n HA.o (by omega) AC).mono ?_);rintro e w1 ⟨v1,rfl,l,C⟩;obtain⟨pv,cv,rfl,AW,AX⟩:=l.form;have AH:=qh l;have m:=qh C;clear l C))
 have AI:D (Rd (.slice Q4) w1 [A pv (Qs n).length cv] (Qs n)):=qh (AH.o.rd rfl);generalize hL:Qs n=L at *
 have A4:=qh hL;have A5:=m.o.size;have A6:=qh (Qqe.nil (t:=Qu) (e:=272) (B:=w1.heap.size) (w:=w1));clear hL;have AJ:D (∀p∈L,((0<=p.1/\p.1<n.length)/\0<=p.2/\p.2<(aW (Q7 n p.1)).length)):=qh (λp hp=>Ja.1 (A4.o▸hp));go_loopw [3,10] (λu i wr=>∃(j:Nat),j<=L.length/\i=I Z j/\D (Qqe Qu 272 w1.heap.size wr u (Q5h n (L.take j)))/\D (Bi w1.heap.size w1 wr)) (λ_ i _=>L.length-(Bv i).toNat);case atStart=>exact⟨0,Ak _,rfl,A6.o,Ai _ _⟩
 case round=>
  obtain⟨j,hj,rfl,J,F⟩:=hrel;clear A6;have AY:=F.o.size;obtain⟨M,T⟩:∃M:List Qqt,Q5h n (L.take j)=M:=⟨_,rfl⟩;rw[T]at J;have HI:=qh T;obtain⟨pu,cu,rfl,-,-⟩:=J.o.form;by_cases r:j<L.length
  ·obtain⟨b1,o1,rfl,hE⟩:=Rd.elem (AI.o.kept (Am F.o)) j r
   have U:=qh (AJ.o L[j] (As r));have W:D (Q5h n (L.take (j+1))=M++(if Q3g n L[j]then [(L[j],Qt n L[j])]else [])):=qh (by rw[Qfn n r,T]);have AK:D (M.length<=L.length):=qh (by rw[<-T];exact Qir n L j);generalize L[j]=p at *
   obtain⟨a,s⟩:=p;obtain⟨e0,e1,AL,AM⟩:=At.word (t:=a) (a:=s) hE;simp only[Ty.sz,Bj]at e0 e1;clear hE;clear T;have AZ:(j:Int)<L.length:=by omega
   have B0:(0:Int)<=j:=by omega
   go_upto_region 5 with fail
   refine Qq ?_;intro X x;have A7:D (Bi wr.heap.size wr X):=qh (by rw[x];go_grown);have y:X.heap[wr.heap.size]?=R (.cells #[I Z a,I Z s] 185 (0,0)):=by rw[x];exact heap_alloc_new wr _
   have B1:=qh y;obtain⟨⟨G,H⟩,-⟩:=Za y;have AN:D (At Je X b o n):=qh (HA.o.kept (Am (Q0 (Q0 m.o (F.o.mono (Aj _))) A7.o)));clear x y e0 e1;obtain⟨q,Y⟩:∃q,Qt n (a,s)=q:=⟨_,rfl⟩;have HQ:=qh Y;obtain⟨q0,q1⟩:=q;have c:D (Q3g n (a,s)=(Q03 (a,s) (q0,q1) && (decide (0<s) && decide (0<q1)))):=qh (by unfold Q3g;rw[Y]);have A8:D (Qqm q0/\Qqm q1):=qh (by obtain⟨p1,-,-⟩:=Q1i HV.o (p:=(a,s)) (Ja.2 U.o);rw[Y]at p1;obtain⟨⟨m1,m2⟩,m3,m4⟩:=Ja.1 p1;simp only at m1 m2 m3 m4;have:=(Y5 HV.o).2.2.1 q0.toNat;unfold Q7 at m4;unfold Qqm;omega);clear Y;go_upto_region 6 with((go_at_call 158;(with_reducible refine(Qa0 X b o n AN.o a s U.o.1.1 U.o.1.2 U.o.2.1 U.o.2.2).mono ?_);rintro e d ⟨rfl,C⟩;rw[HQ.o];have AO:=qh C;clear C))
   refine Qq ?_;intro W6 z;have AP:D (Bi d.heap.size d W6):=qh (by rw[z];go_grown);have A0:W6.heap[d.heap.size]?=R (.cells #[I Z q0,I Z q1] 185 (0,0)):=by rw[z];exact heap_alloc_new d _
   have B2:=qh A0;obtain⟨⟨O,P⟩,-⟩:=Za A0;have A1:=qh (Q0 AO.o AP.o);have G:=(Am A1.o).cell _ _ G;have H:=(Am A1.o).cell _ _ H;have K:=qh (Q0 A7.o A1.o);clear z A0;cases C:Q03 (a,s) (q0,q1);case false=>
    have S:=qh C;go_wp2_with((go_at_call 261;(with_reducible refine(Q6i _ a s q0 q1).mono ?_);rintro e f ⟨rfl,C⟩;rw[S.o];have E:=qh C;clear C))
    go_roundw;case rel=>exact⟨j+1,by omega,by go_num,(J.o.kept (Q0 K.o E.o)).eqL (by rw[W.o,c.o,S.o];simp),(show Bi _ _ _ from Q0 F.o (Q0 K.o E.o))⟩
    case measure=>simp[Bv];omega
   case true=>
    have S:=qh C;by_cases A2:0<s
    ·by_cases A9:0<q1
     ·have V:D (Q3g n (a,s)=Bn):=qh (by rw[c.o,C];simp[A2,A9])
      go_upto_region 7 with((go_at_call 261;(with_reducible refine(Q6i _ a s q0 q1).mono ?_);rintro e f ⟨rfl,C⟩;rw[S.o];have E:=qh C;clear C;have G:=(Am E.o).cell _ _ G;have H:=(Am E.o).cell _ _ H;have O:=(Am E.o).cell _ _ O;have P:=(Am E.o).cell _ _ P))
      have A3:=qh (Q0 K.o E.o);have B3:=A3.o.size;go_wp2_with(at_builtin;refine Q0e f rfl (.tmp 30) (.tmp 34) 269 rfl (t:=Qu) rfl (by decide) w1.heap.size 272 i0 _ 32 underlying269 AD AE AF AG rfl (by decide) (v:=A pu M.length cu) (xs:=M) ((a,s),(q0,q1)) _ rfl rfl (J.o.kept A3.o) (Q6q AL AM A8.o.1 A8.o.2) rfl (by have:=AK.o;omega) (by omega) ?_;intro v9 w9 AA AB _;have AQ:=qh AA;have AR:=qh AB;clear AA AB)
      go_roundw;case rel=>exact⟨j+1,by omega,by go_num,AQ.o.eqL (by rw[W.o,V.o,HQ.o];rfl),(show Bi _ _ _ from(Q0 F.o A3.o).trans AR.o)⟩
      case measure=>simp[Bv];omega
     ·have V:D (Q3g n (a,s)=Bm):=qh (by rw[c.o,C];simp[A2,A9])
      go_wp2_with((go_at_call 261;(with_reducible refine(Q6i _ a s q0 q1).mono ?_);rintro e f ⟨rfl,C⟩;rw[S.o];have E:=qh C;clear C;have G:=(Am E.o).cell _ _ G;have H:=(Am E.o).cell _ _ H;have O:=(Am E.o).cell _ _ O;have P:=(Am E.o).cell _ _ P))
      go_roundw;case rel=>exact⟨j+1,by omega,by go_num,(J.o.kept (Q0 K.o E.o)).eqL (by rw[W.o,V.o];simp),(show Bi _ _ _ from Q0 F.o (Q0 K.o E.o))⟩
      case measure=>simp[Bv];omega
    ·have V:D (Q3g n (a,s)=Bm):=qh (by rw[c.o,C];simp[A2])
     go_wp2_with((go_at_call 261;(with_reducible refine(Q6i _ a s q0 q1).mono ?_);rintro e f ⟨rfl,C⟩;rw[S.o];have E:=qh C;clear C;have G:=(Am E.o).cell _ _ G;have H:=(Am E.o).cell _ _ H;have O:=(Am E.o).cell _ _ O;have P:=(Am E.o).cell _ _ P))
     go_roundw;case rel=>exact⟨j+1,by omega,by go_num,(J.o.kept (Q0 K.o E.o)).eqL (by rw[W.o,V.o];simp),(show Bi _ _ _ from Q0 F.o (Q0 K.o E.o))⟩
     case measure=>simp[Bv];omega
  ·have AS:L.length<=j:=by omega
   go_wp2_with fail
   go_ret;refine⟨_,rfl,(J.o.lo A5).eqL ?_,m.o.trans (F.o.mono A5)⟩;rw[<-HI.o,Ao AS,<-A4.o,Qiu]
end Go.Proofs.YthbpkpnioaniiaaGreat
