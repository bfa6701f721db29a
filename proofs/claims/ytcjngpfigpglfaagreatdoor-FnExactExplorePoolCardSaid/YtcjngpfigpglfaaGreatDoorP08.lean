import Derived.Test.YtcjngpfigpglfaaGreatDoorP07
set_option maxHeartbeats 0
set_option maxRecDepth 100000
set_option linter.all false
namespace Go.Proofs.YtcjngpfigpglfaaGreatDoor
open Go.RowKit Go.Proofs.Tryz
open Go.Value renaming int->I,slice->A
open Go.IntKind renaming i64->Z
open Option renaming none->N,some->R
open OC(oC)
open OR(oR)
open JN(jN)
open Bool renaming true->Bn,false->Bm,and_eq_true->Bi,or_eq_true->Ew
open Int renaming toNat_natCast->Bq,emod_nonneg->Fz,emod_lt_of_pos->Ez
open List renaming flatMap_cons->Cr,countP_append->Ec,range->Bz,mem_filter->Di,mem_range->Cy,replicate->Ch,length_set->Bl,countP_cons->Dd,cons_append->Bw,length_cons->Br,nil_append->Bs,append_nil->Cl,map_append->Ep,foldl_cons->Cb,drop_eq_getElem_cons->Dq,length_map->De,append_assoc->Co,length_take->Cf,eq_nil_of_length_eq_zero->Do,drop_eq_nil_of_le->Ey,mem_flatMap->Cz,not_mem_nil->Cs,mem_map->Dx,length_replicate->Eh,mem_or_eq_of_mem_set->Fv,getElem?_take->Cm
open List.cons renaming injEq->Ed
open Prod renaming ext->Dz
def Qxf(i:Nat)(w:Wd):Bool:=w.1 !=0 && w.2==(i:Int)
def Qxj(cs:List Qb)(i:Nat):Nat:=(cs.flatMap aW).countP (Qxf i)
def Ql6(R:List Wd)(i:Nat):Nat:=R.countP (λp=>p.1==(i:Int))+R.countP (λp=>p.2==(i:Int))
def nU(cs:List Qb)(L R:List Wd)(i:Nat):Nat:=Qxj cs i+(L.countP (Qxf i)+Ql6 R i)
theorem Qfk{cs:List Qb}{i:Nat}(h:i<cs)(y j):Qxj (cs.set i y) j+(aW (Q9 cs i)).countP (Qxf j)=Qxj cs j+(aW y).countP (Qxf j):=by
 induction cs generalizing i with
 |nil=>simp at h
 |cons c cs ih=>
  cases i with
  |zero=>simp[Qxj,Q9,Cr,Ec];omega
  |succ i=>grind[Qxj,Q9]
def Qfe{cs:List Qb}{i y w}(h:w∈(cs.set i y).flatMap aW):w∈aW y\/w∈cs.flatMap aW:=by
 grind
def Qbp{cs:List Qb}{i:Nat}{w}(h:i<cs)(B:w∈aW (Q9 cs i)):w∈cs.flatMap aW:=by grind[Qy]
structure J (E:List Nat) (m:Qyb) (l:List Nat) (L R:List Wd):Prop where
 free:Yq m l
 cover:∀i,i<(mC m).length->aK (Q9 (mC m) i)=0->i∈l
 empty:∀i∈l,aW (Q9 (mC m) i)=[]
 words:∀w∈(mC m).flatMap aW,w.1=0\/Zc (mC m) w=Bn
 loose:∀w∈L,Zc (mC m) w=Bn
 reds:∀p∈R,Zn (mC m) p=Bn
 uses:∀i,i<(mC m).length->(i∈E->nU (mC m) L R i=0)/\(i∉E->Q51 (Q9 (mC m) i) (nU (mC m) L R i)=Bn)
theorem Q16{c u}:Q51 c u=Bn↔(Y9 (aK c)=Bn->u=1)/\(aK c=13->(u:Int)=2-((aW c):Int)):=by
 unfold Q51;grind
def Q5l{cs:List Qb}:∀ {l:List Nat} {p:Int},Jm cs p l->∀i∈l,i<cs.length/\aK (Q9 cs i)=0
 | [],_,_=>λi h=>by cases h
 |a::l,p,⟨h1,h2,h3,h4⟩=>λi h=>by
  rcases Aq.1 h with rfl|h
  ·exact⟨h2,h3⟩
  exact Q5l h4 i h
theorem J.len{E m l L B}(h:J E m l L B):l=Qx (mC m):=by
 have e:Qx (mC m)=((Bz (mC m)).filter λi=>aK (Q9 (mC m) i)==0).length:=Qag (mC m) Q9x (λc=>aK c==0);rw[e];refine(List.Perm.length_eq ((List.perm_ext_iff_of_nodup (Jm.nodup h.free) (List.Pairwise.filter _ List.nodup_range)).2 λi=> ?_));rw[Di,Cy];constructor
 ·intro C
  have:=Q5l h.free i C;grind
 intro⟨h1,h2⟩;exact h.cover i h1 (by simpa using h2)
theorem J.chain{E m l L B}(h:J E m l L B):Zo (mC m) (Qx (mC m)) (mF m)=Bn:=by
 rw[<-h.len];exact h.free.chain
theorem Qjc{cs B:List Qb}(C:B.length=cs){w}(h:aK (Q7 B w.2)=aK (Q7 cs w.2)):Zc B w=Zc cs w:=by
 unfold Zc;rw[C,h]
theorem Qho{cs B:List Qb}(C:B.length=cs){p}(E:aK (Q7 B p.1)=aK (Q7 cs p.1))(F:aK (Q7 B p.2)=aK (Q7 cs p.2)):Zn B p=Zn cs p:=by
 grind[Zn]
theorem Q3v{cs w}(h:Zc cs w=Bn):w.1≠0/\0<=w.2/\w.2.toNat<cs:=by
 have:=Jo h;omega
def Qo2{cs L B i}(h:nU cs L B i=0):(∀w∈cs.flatMap aW,Qxf i w=Bm)/\(∀w∈L,Qxf i w=Bm)/\∀p∈B,p.1≠(i:Int)/\p.2≠(i:Int):=by
 grind[nU,Qxj,Ql6,List.countP_eq_zero]
def J.free_zero{E m l L C}(h:J E m l L C){i}(H:i∈l):nU (mC m) L C i=0:=by
 obtain⟨-,F⟩:=Q5l h.free i H;have G:∀w,Zc (mC m) w=Bn->Qxf i w=Bm:=λw B=>by
  rcases hh:Qxf i w with _|_
  ·rfl
  unfold Qxf at hh;simp only[Bi,beq_iff_eq]at hh;have:=Jo B;rw[hh.2]at this;simp only[Q7,Bq,F]at this;rcases this.2 with h|h
  ·exact absurd h.2 (by decide)
  omega
 have M:∀p∈C,p.1≠(i:Int)/\p.2≠(i:Int):=λp K=>by
  have:=J0 (h.reds p K);constructor
  ·intro e
   rw[e]at this;have:=this.2.1;simp only[Q7,Bq,F]at this;exact absurd this (by decide)
  intro e;rw[e]at this;have:=this.2.2;simp only[Q7,Bq,F]at this;exact absurd this (by decide)
 unfold nU Qxj Ql6;have O:((mC m).flatMap aW).countP (Qxf i)=0:=List.countP_eq_zero.2 λw B=>by
  rcases h.words w B with h0|h0
  ·simp[Qxf,h0]
  simp[G w h0]
 have P:L.countP (Qxf i)=0:=List.countP_eq_zero.2 λw B=>by simp[G w (h.loose w B)]
 grind[List.countP_eq_zero]
theorem Qqt{B C}(h:B.Perm C)(i):Ql6 B i=Ql6 C i:=by unfold Ql6;rw[h.countP_eq,h.countP_eq]
theorem J.perm{E m l L L' B C}(h:J E m l L B)(F:L.Perm L')(G:B.Perm C):J E m l L' C:=by
 have e:∀i,nU (mC m) L' C i=nU (mC m) L B i:=λi=>by unfold nU;rw[F.countP_eq,Qqt G]
 exact⟨h.free,h.cover,h.empty,h.words,λw H=>h.loose w (F.mem_iff.2 H),λp K=>h.reds p (G.mem_iff.2 K),λi M=>by rw[e];exact h.uses i M⟩
theorem Vr{cs i y w}(h:Zc cs w=Bn)(B:aK y=aK (Q9 cs i)\/Qxf i w=Bm):Zc (cs.set i y) w=Bn:=by
 grind[Qjc,Q7,Z2,Q3v,Qxf]
def Q5j{cs i y p}(h:Zn cs p=Bn)(B:aK y=aK (Q9 cs i)\/(p.1≠(i:Int)/\p.2≠(i:Int))):Zn (cs.set i y) p=Bn:=by
 have C:=(J0 h).1;grind[Qho,Q7,Z2]
theorem Q8b{t}(h:t≠0)(f:Nat)(j):Qxf j (t,(f:Int))=decide (f=j):=by
 unfold Qxf;grind
theorem J.get{m f l L L' G}(h:J [] m (f::l) L G)(y){t:Int}{n}(K:(t=1/\Y9 (aK y)=Bn/\n=1)\/(t=2/\aK y=13/\n+(aW y).length=2))(r:∀j,(aW y).countP (Qxf j)+L'.countP (Qxf j)=L.countP (Qxf j))(s:∀w∈aW y,w.1=0\/w∈L)(W:∀w∈L',w∈L):
  (mF m=(f:Int)/\f<(mC m)/\f∉l/\mC (Qi m y)=(mC m).set f y)/\J [] (Qi m y) l (Ch n (t,(f:Int))++L') G:=by
 have M:f∈f::l:=Ae;obtain⟨X,S,T⟩:=h.free.take y;have O:=h.empty f M;obtain⟨Y,a,b⟩:=Qo2 (h.free_zero M);have c:=h.free_zero M;have U:=(Ar.1 (Jm.nodup h.free)).1;have E:mC (Qi m y)=(mC m).set f y:=by unfold Qi mC;simp only[];rw[S];rfl
 have u:t≠0:=by rcases K with⟨h,-⟩|⟨h,-⟩<;>omega
 have d:aK y≠0:=by
  rcases K with⟨-,h,-⟩|⟨-,h,-⟩
  ·intro e;rw[e]at h;exact absurd h (by decide)
  omega
 have g:∀w∈L,Zc ((mC m).set f y) w=Bn:=λw O=>Vr (h.loose w O) (.inr (a w O));have k:∀j,nU ((mC m).set f y) (Ch n (t,(f:Int))++L') G j=nU (mC m) L G j+if f=j then n else 0:=λj=>by grind[Qfk,nU,List.countP_replicate,Q8b]
 refine⟨⟨S,T,U,E⟩,X, ?_, ?_, ?_, ?_, ?_, ?_⟩
 ·intro i B F
  rw[E]at B F;rw[Bl]at B;rw[Z2]at F;split at F
  ·exact absurd F d
  rename_i e;rcases Aq.1 (h.cover i B F)with rfl|P
  ·exact absurd ⟨rfl,B⟩ e
  exact P
 ·intro i B
  rw[E,Z2,if_neg (λe=>U (by rw[e.1];exact B))];exact h.empty i (Aa _ B)
 ·intro w C
  rw[E]at C⊢;rcases Qfe C with C|C
  ·grind
  exact(h.words w C).imp_right λP=>Vr P (.inr (Y w C))
 ·intro w C
  rw[E];rcases At0.1 C with C|C
  ·obtain⟨-,rfl⟩:=List.mem_replicate.1 C
   unfold Zc;simp only[Q7,Bq,Bl,Z2,T,and_self,if_true,Bi,Ew,beq_iff_eq,Qj];grind
  exact g w (W w C)
 ·intro p V
  rw[E];exact Q5j (h.reds p V) (.inr (b p V))
 intro i B;rw[E]at B⊢;rw[Bl]at B;refine⟨λh=>(by cases h),λ_=> ?_⟩;rw[k,Z2];by_cases e:f=i
 ·subst e
  rw[if_pos ⟨rfl,B⟩,if_pos rfl,c,Q16];rcases K with⟨o,H,q⟩|⟨o,H,q⟩
  ·exact⟨λ_=>by omega,λe=>by rw[e]at H;exact absurd H (by decide)⟩
  exact⟨λe=>by rw[H]at e;exact absurd e (by decide),λ_=>by omega⟩
 rw[if_neg (λh=>e h.1),if_neg e];exact(h.uses i B).2 (by simp)
def J.words'{m l L L' F}(h:J [] m l L F){i:Nat}(S:i<(mC m))(G:Y9 (aK (Q9 (mC m) i))=Bn)(ws)(W:∀j,ws.countP (Qxf j)+L'.countP (Qxf j)=(aW (Q9 (mC m) i)).countP (Qxf j)+L.countP (Qxf j))(H:∀w∈ws,w.1=0\/(w∈aW (Q9 (mC m) i)\/w∈L))(T:∀w∈L',w∈L):J [] (Qa m i ws) l L' F:=by
 have E:mC (Qa m i ws)=(mC m).set i (aK (Q9 (mC m) i),aL (Q9 (mC m) i),aV (Q9 (mC m) i),aD (Q9 (mC m) i),ws):=by unfold Qa Qg1 mC Q7;simp only[Bq]
 have O:i∉l:=λH=>by rw[(Q5l h.free i H).2]at G;exact absurd G (by decide)
 have P:∀j,aK (Q9 ((mC m).set i (aK (Q9 (mC m) i),aL (Q9 (mC m) i),aV (Q9 (mC m) i),aD (Q9 (mC m) i),ws)) j)=aK (Q9 (mC m) j):=λj=>by
  rw[Z2];split
  ·rename_i e;rw[<-e.1];rfl
  rfl
 have U:∀j,nU ((mC m).set i (aK (Q9 (mC m) i),aL (Q9 (mC m) i),aV (Q9 (mC m) i),aD (Q9 (mC m) i),ws)) L' F j=nU (mC m) L F j:=λj=>by grind[Qfk,nU,aW]
 refine⟨h.free.put _ (by rw[Bq];exact O), ?_, ?_, ?_, ?_, ?_, ?_⟩
 ·intro j B K
  rw[E]at B K;rw[Bl]at B;rw[P]at K;exact h.cover j B K
 ·intro j B
  rw[E,Z2,if_neg (λe=>O (by rw[e.1];exact B))];exact h.empty j B
 ·intro w C
  rcases Qfe C with C|C
  ·rcases H w C with h0|h0|h0
   ·exact .inl h0
   ·exact(h.words w (Qbp S h0)).imp_right λM=>Vr M (.inl rfl)
   exact .inr (Vr (h.loose w h0) (.inl rfl))
  exact(h.words w C).imp_right λM=>Vr M (.inl rfl)
 ·intro w C
  rw[E];exact Vr (h.loose w (T w C)) (.inl rfl)
 ·intro p V
  rw[E];exact Q5j (h.reds p V) (.inl rfl)
 intro j B;rw[E]at B⊢;rw[Bl]at B;refine⟨λh=>(by cases h),λ_=> ?_⟩;have:=(h.uses j B).2 (by simp);rw[U];rw[Q16]at this⊢;rw[P];refine⟨this.1,λe=> ?_⟩;rw[Z2,if_neg]
 ·exact this.2 e
 rintro⟨rfl,-⟩;rw[e]at G;exact absurd G (by decide)
def J.kill{E m l L H i}(h:J (i::E) m l L H)(G:i<(mC m))(U:i∉E)(V:aK (Q9 (mC m) i)≠0)(W:∀w∈aW (Q9 (mC m) i),w.1≠0):i∉l/\mC (Qd m i)=(mC m).set i (0,0,mF m,[],[])/\J E (Qd m i) (i::l) (aW (Q9 (mC m) i)++L) H:=by
 have O:i∉l:=λK=>V (Q5l h.free i K).2;have F:mC (Qd m i)=(mC m).set i (0,0,mF m,[],[]):=by unfold Qd mC;simp only[Bq]
 have X:=(h.uses i G).1 Ae;obtain⟨P,Y,a⟩:=Qo2 X;have b:∀j,nU ((mC m).set i (0,0,mF m,[],[])) (aW (Q9 (mC m) i)++L) H j=nU (mC m) L H j:=λj=>by have d:=Qfk G (0,0,mF m,[],[]) j;unfold nU;rw[Ec];have:(aW ((0,0,mF m,[],[]):Qb)).countP (Qxf j)=0:=rfl;omega
 have S:=h.free.release (i:=(i:Int)) (by omega) (by omega) (by rw[Bq];exact O);rw[Bq]at S;refine⟨O,F,S, ?_, ?_, ?_, ?_, ?_, ?_⟩
 ·intro j C M
  rw[F]at C M;rw[Bl]at C;rw[Z2]at M;split at M
  ·grind
  exact Aa _ (h.cover j C M)
 ·intro j C
  rw[F,Z2];split
  ·rfl
  rename_i e;rcases Aq.1 C with rfl|C
  ·exact absurd ⟨rfl,G⟩ e
  exact h.empty j C
 ·intro w B
  rcases Qfe B with B|B
  ·cases B
  exact(h.words w B).imp_right λc=>Vr c (.inr (P w B))
 ·intro w B
  rw[F];rcases At0.1 B with B|B
  ·have K:=Qbp G B
   exact Vr ((h.words w K).resolve_left (W w B)) (.inr (P w K))
  exact Vr (h.loose w B) (.inr (Y w B))
 ·intro p T
  rw[F];exact Q5j (h.reds p T) (.inr (a p T))
 intro j C;rw[F]at C⊢;rw[Bl]at C;rw[b,Z2];by_cases e:i=j
 ·subst e
  rw[if_pos ⟨rfl,G⟩];refine⟨λh=>absurd h U,λ_=> ?_⟩;rw[Q16];exact⟨λe=>absurd (show Y9 0=Bn from e) (by decide),λe=>absurd (show(0:Int)=13 from e) (by decide)⟩
 rw[if_neg (λh=>e h.1)];have:=h.uses j C;grind
theorem J.pop{m l L B}{a b:Nat}(h:J [] m l L (((a:Int),(b:Int))::B)):J [a,b] m l L B:=by
 obtain⟨⟨q0,q1,C⟩,ka,kb⟩:=J0 (h.reds _ Ae);simp only[Q7,Bq]at q0 q1 C ka kb;have G:∀j,nU (mC m) L (((a:Int),(b:Int))::B) j=nU (mC m) L B j+((if a=j then 1 else 0)+(if b=j then 1 else 0)):=λj=>by unfold nU Ql6;grind
 refine⟨h.free,h.cover,h.empty,h.words,h.loose,λp E=>h.reds p (Aa _ E),λj F=> ?_⟩;have:=(h.uses j F).2 (by simp);grind[Q16]
theorem J.join{m l L B a b}(h:J [] m l (((1:Int),a)::((1:Int),b)::L) B):J [] m l L ((min a b,max a b)::B):=by
 have K:=h.loose _ Ae;have M:=h.loose _ (Aa _ Ae);have E:=Jo K;have F:=Jo M;simp only[Q7]at E F;have ka:Y9 (aK (Q9 (mC m) a.toNat))=Bn:=by rcases E.2 with h|h;exact h.2;omega
 have kb:Y9 (aK (Q9 (mC m) b.toNat))=Bn:=by rcases F.2 with h|h;exact h.2;omega
 have G:∀j:Nat,(((1:Int),a)::((1:Int),b)::L).countP (Qxf j)=L.countP (Qxf j)+((if a=j then 1 else 0)+(if b=j then 1 else 0)):=λj=>by grind[Qxf]
 have H:a≠b:=λe=>by subst e;have:=(Q16.1 ((h.uses a.toNat (by omega)).2 (by simp))).1 ka;unfold nU at this;rw[G,if_pos (by omega)]at this;omega
 have O:∀j,nU (mC m) L ((min a b,max a b)::B) j=nU (mC m) (((1:Int),a)::((1:Int),b)::L) B j:=λj=>by
  unfold nU Ql6;rw[G,Dd,Dd];simp only[beq_iff_eq];rcases Int.lt_or_gt_of_ne H with hlt|hlt
  ·rw[show min a b=a by omega,show max a b=b by omega]
   omega
  rw[show min a b=b by omega,show max a b=a by omega];omega
 refine⟨h.free,h.cover,h.empty,h.words,λw P=>h.loose w (Aa _ (Aa _ P)),λp C=> ?_,λj S=>by rw[O];exact h.uses j S⟩;rcases Aq.1 C with rfl|C
 ·unfold Zn
  simp only[Bi,Qj];rcases Int.lt_or_gt_of_ne H with hlt|hlt
  ·rw[show min a b=a by omega,show max a b=b by omega]
   exact⟨by omega,by omega,ka,kb⟩
  rw[show min a b=b by omega,show max a b=a by omega];exact⟨by omega,by omega,kb,ka⟩
 exact h.reds p C
def J.drop{m l L B}{i:Nat}{n}(h:J [] m l (Ch n ((2:Int),(i:Int))++L) B)(F:aK (Q9 (mC m) i)=13)(G:n+(aW (Q9 (mC m) i)).length=2):J [i] m l L B:=by
 have H:∀j,nU (mC m) (Ch n ((2:Int),(i:Int))++L) B j=nU (mC m) L B j+if i=j then n else 0:=λj=>by grind[nU,List.countP_replicate,Q8b]
 refine⟨h.free,h.cover,h.empty,h.words,λw C=>h.loose w (Af _ C),h.reds,λj E=> ?_⟩;have:=(h.uses j E).2 (by simp);grind[Q16]
def J.bind{m l L G}{i:Nat}{b}(h:J [] m l (((2:Int),(i:Int))::b::L) G)(C:aK (Q9 (mC m) i)=13)(S:aW (Q9 (mC m) i)=[])(a:b≠(2,(i:Int))):mC (Qa m i [b])=(mC m).set i (13,aL (Q9 (mC m) i),aV (Q9 (mC m) i),aD (Q9 (mC m) i),[b])/\J [] (Qa m i [b]) l L G:=by
 have E:mC (Qa m i [b])=(mC m).set i (13,aL (Q9 (mC m) i),aV (Q9 (mC m) i),aD (Q9 (mC m) i),[b]):=by unfold Qa Qg1 mC Q7;simp only[Bq];rw[<-C];rfl
 have T:=h.loose _ Ae;have U:=h.loose b (Aa _ Ae);have K:i<(mC m):=by have:=(Jo T).1;simp only at this;omega
 have M:i∉l:=λV=>by rw[(Q5l h.free i V).2]at C;omega
 have c:Qxf i b=Bm:=by
  rcases hh:Qxf i b with _|_
  ·rfl
  unfold Qxf at hh;simp only[Bi,beq_iff_eq]at hh;have:=Jo U;rw[hh.2]at this;simp only[Q7,Bq,C]at this;rcases this.2 with h|h
  ·exact absurd h.2 (by decide)
  grind
 have O:∀j,aK (Q9 ((mC m).set i (13,aL (Q9 (mC m) i),aV (Q9 (mC m) i),aD (Q9 (mC m) i),[b])) j)=aK (Q9 (mC m) j):=λj=>by
  rw[Z2];split
  ·rename_i e;rw[<-e.1,C];rfl
  rfl
 have W:∀j,nU ((mC m).set i (13,aL (Q9 (mC m) i),aV (Q9 (mC m) i),aD (Q9 (mC m) i),[b])) L G j+(if i=j then 1 else 0)=nU (mC m) (((2:Int),(i:Int))::b::L) G j:=λj=>by have d:=Qfk K (13,aL (Q9 (mC m) i),aV (Q9 (mC m) i),aD (Q9 (mC m) i),[b]) j;grind[nU,Q8b,aW]
 refine⟨E,h.free.put _ (by rw[Bq];exact M), ?_, ?_, ?_, ?_, ?_, ?_⟩
 ·intro j B H
  rw[E]at B H;rw[Bl]at B;rw[O]at H;exact h.cover j B H
 ·intro j B
  rw[E,Z2,if_neg (λe=>M (by rw[e.1];exact B))];exact h.empty j B
 ·intro w F
  rw[E]at F⊢;rcases Qfe F with F|F
  ·grind[aW,Vr]
  exact(h.words w F).imp_right λX=>Vr X (.inl C.symm)
 ·intro w F
  rw[E];exact Vr (h.loose w (Aa _ (Aa _ F))) (.inl C.symm)
 ·intro p Y
  rw[E];exact Q5j (h.reds p Y) (.inl C.symm)
 intro j B;rw[E]at B⊢;rw[Bl]at B;refine⟨λh=>(by cases h),λ_=> ?_⟩;have:=(h.uses j B).2 (by simp);have P:=W j;rw[Q16]at this⊢;rw[O];by_cases e:i=j
 ·subst e
  rw[if_pos rfl]at P;refine⟨λe=>by rw[C]at e;exact absurd e (by decide),λe=> ?_⟩;rw[Z2,if_pos ⟨rfl,K⟩];rw[S]at this;show _=(2:Int)-(([b]:List Wd):Int);grind
 rw[if_neg e,Nat.add_zero]at P;grind[Z2]
def Qpv(c:Qb):Prop:=Ze c=Bn/\∀w∈aW c,w.1≠0
def CO(raw:List Nat)(cs:List Qb):Prop:=∀i,i<cs.length->i∉raw->Qpv (Q9 cs i)
theorem CO.set{C cs i y}(h:CO C cs)(B:i∈C\/Qpv y):CO C (cs.set i y):=λj E F=>by
 rw[Bl]at E;rw[Z2];split
 ·rename_i e
  rcases B with B|B
  ·exact absurd (e.1▸B) F
  exact B
 exact h j E F
theorem CO.mono{B raw' cs}(h:CO B cs)(C:∀i∈B,i∈raw'):CO raw' cs:=λj E F=>h j E λG=>F (C j G)
def CO.close{i B cs}(h:CO (i::B) cs)(C:Qpv (Q9 cs i)):CO B cs:=λj E F=>
 if e:j=i then e▸C else h j E λG=>(Aq.1 G).elim e F
def Qy1(ls:List Qy3):List Wd:=ls.flatMap λl=> [l.1,l.2]
theorem Qlg(B a b):Qy1 (B++ [(a,b)])=Qy1 B++ [a,b]:=by simp[Qy1]
theorem J.permc{E m l L L' B C}(h:J E m l L B)(F:∀w:Wd,L.count w=L'.count w)(G:∀w:Wd,B.count w=C.count w):J E m l L' C:=by grind[J.perm]
def Q6w{v}:Qpv (0,0,v,[],[]):=⟨rfl,λw B=>by cases B⟩
def Qbh:Qpv Z6:=⟨rfl,λw B=>by cases B⟩
theorem Qih{ws:List Wd}(h:∀w∈ws,w.1=0)(j):ws.countP (Qxf j)=0:=by grind[Qxf]
def J.new1{m f l L B}(h:J [] m (f::l) L B)(y)(E:Y9 (aK y)=Bn)(C:∀w∈aW y,w.1=0):
  (mF m=(f:Int)/\f<(mC m)/\f∉l/\mC (Qi m y)=(mC m).set f y)/\J [] (Qi m y) l (((1:Int),(f:Int))::L) B:=
 h.get y (t:=1) (n:=1) (.inl ⟨rfl,E,rfl⟩) (L':=L) (λj=>by rw[Qih C j];omega) (λw F=> .inl (C w F)) (λ_ h=>h)
def J.newW{m f l L B}(y)(h:J [] m (f::l) (aW y++L) B)(C:Y9 (aK y)=Bn):
  (mF m=(f:Int)/\f<(mC m)/\f∉l/\mC (Qi m y)=(mC m).set f y)/\J [] (Qi m y) l (((1:Int),(f:Int))::L) B:=
 h.get y (t:=1) (n:=1) (.inl ⟨rfl,C,rfl⟩) (L':=L) (λj=>by rw[Ec]) (λw E=> .inr (Ag _ E)) (λ_ h=>Af _ h)
def J.newV{m f l L B}(h:J [] m (f::l) L B):
  (mF m=(f:Int)/\f<(mC m)/\f∉l/\mC (Qw m)=(mC m).set f Z6)/\J [] (Qw m) l (((2:Int),(f:Int))::((2:Int),(f:Int))::L) B:=
 h.get Z6 (t:=2) (n:=2) (.inr ⟨rfl,rfl,rfl⟩) (L':=L) (λj=>by simp[Z6,aW]) (λw C=>by simp[Z6,aW]at C) (λ_ h=>h)
theorem Qh1(m)(i:Nat)(ws):mC (Qa m i ws)=(mC m).set i (aK (Q9 (mC m) i),aL (Q9 (mC m) i),aV (Q9 (mC m) i),aD (Q9 (mC m) i),ws):=by
 unfold Qa Qg1 mC Q7;simp only[Bq]
def J.addW{m l L C x}(h:J [] m l (x::L) C){i:Nat}(E:i<(mC m))(F:Y9 (aK (Q9 (mC m) i))=Bn):J [] (J4 m i x) l L C:=
 h.words' E F _ (λj=>by
  show(aW (Q9 (mC m) i)++ [x]).countP _+_=_;rw[Ec,Dd,Dd,List.countP_nil];omega) (λw B=>by
  have B:=B;rcases At0.1 B with B|B
  ·exact .inr (.inl B)
  exact .inr (.inr (by rw[Bb.1 B];exact Ae))) (λw B=>Aa _ B)
def J.fill{m l L C}(ws)(h:J [] m l (ws++L) C){i:Nat}(E:i<(mC m))(F:Y9 (aK (Q9 (mC m) i))=Bn)(B:∀w∈aW (Q9 (mC m) i),w.1=0):J [] (Qa m i ws) l L C:=
 h.words' E F _ (λj=>by rw[Qih B j,Ec];omega) (λw B=> .inr (.inr (Ag _ B))) (λw B=>Af _ B)
def J.nonfree{E m l L B}(h:J E m l L B){i}(C:aK (Q9 (mC m) i)≠0):i∉l:=λF=>C (Q5l h.free i F).2
def J.real{E m l L B}(h:J E m l L B){w}(C:w∈L):w.1≠0:=(Q3v (h.loose w C)).1
def Qwh{L R1:List Wd}:∀(ws:List Wd) (l:List Nat) (m:Qyb) (B:List Qy3),J [] m l (ws++(Qy1 B++L)) R1->CO [] (mC m)->ws.length<=l->
  ∃l',J [] (ws.foldl Ym (m,B)).1 l' (Qy1 (ws.foldl Ym (m,B)).2++L) R1/\CO [] (mC (ws.foldl Ym (m,B)).1)
 | [],l,_,_,h,hc,_=>⟨l,h,hc⟩
 |_::_,[],_,_,_,_,hl=>absurd hl (by simp)
 |w::ws,f::l,m,B,h,hc,hl=>by
  obtain⟨⟨f1,F,G,C⟩,E⟩:=h.new1 (5,0,0,[],[]) rfl (by simp[aW]);refine Qwh ws l (Qi m (5,0,0,[],[])) (B++ [(w,((1:Int),mF m))]) ?_ ?_ (by simpa using hl)
  ·refine E.permc (λv=> ?_) (λ_=>rfl)
   rw[f1,Qlg];simp only[Bw,List.count_append,List.count_cons,List.count_nil];omega
  rw[C];exact hc.set (.inr ⟨rfl,by simp[aW]⟩)
theorem Qre{L T ws B}(n:0<=B/\B<=8){c d f u v l m F G k lv C E wc H}(h:J [] m (f::u::v::l) (F::ws++(Qy1 G++L)) T)(o:CO [c,d] (mC m))(A6:c≠d)(A7:c<(mC m))(A8:d<(mC m))(W:Q9 (mC m) c=(k,lv,C,E,wc))(X:Q9 (mC m) d=(k,lv,C,E,H))(O:Y9 k=Bn):
  J [] (Zq B c d (m,G) F).1 l (ws++(Qy1 (Zq B c d (m,G) F).2++L)) T/\CO [c,d] (mC (Zq B c d (m,G) F).1)/\(mC (Zq B c d (m,G) F).1).length=(mC m)/\
   Q9 (mC (Zq B c d (m,G) F).1) c=(k,lv,C,E,wc++ [((2:Int),(u:Int))])/\Q9 (mC (Zq B c d (m,G) F).1) d=(k,lv,C,E,H++ [((2:Int),(v:Int))]):=by
 have Y:k≠0:=λe=>by rw[e]at O;exact absurd O (by decide)
 have p:=h.nonfree (i:=c) (by rw[W];exact Y);have q:=h.nonfree (i:=d) (by rw[X];exact Y);simp only[List.mem_cons,not_or]at p q;obtain⟨⟨r,a,s,U⟩,t⟩:=h.new1 (4,B,0,[],[]) rfl (by simp[aW]);obtain⟨⟨x,y,z,b⟩,h2⟩:=t.newV;obtain⟨⟨c1,c2,c3,c4⟩,h3⟩:=h2.newV;simp only[List.mem_cons,not_or]at s z;have e:Zq B c d (m,G) F=(J4 (J4 (Qa (Qw (Qw (Qi m (4,B,0,[],[])))) (f:Int) [((2:Int),(u:Int)),((2:Int),(v:Int))]) (c:Int) (2,(u:Int))) (d:Int) (2,(v:Int)),G++ [(F,((1:Int),(f:Int)))]):=by unfold Zq;simp only[r,x,c1]
 rw[e];simp only[];rw[U,Bl]at y;rw[b,U,Bl,Bl]at c2;have K:mC (Qw (Qw (Qi m (4,B,0,[],[]))))=(((mC m).set f (4,B,0,[],[])).set u Z6).set v Z6:=by rw[c4,b,U]
 have l3:(mC (Qw (Qw (Qi m (4,B,0,[],[]))))).length=(mC m):=by rw[K];simp
 generalize Qw (Qw (Qi m (4,B,0,[],[])))=m3 at *
 have V:Q9 (mC m3) f=(4,B,0,[],[]):=by rw[K];simp only[Z2,Bl];rw[if_neg (by omega),if_neg (by omega),if_pos ⟨trivial,a⟩]
 have A0:Q9 (mC m3) c=(k,lv,C,E,wc):=by rw[K];simp only[Z2,Bl];rw[if_neg (by omega),if_neg (by omega),if_neg (by omega),W]
 have A1:Q9 (mC m3) d=(k,lv,C,E,H):=by rw[K];simp only[Z2,Bl];rw[if_neg (by omega),if_neg (by omega),if_neg (by omega),X]
 have h4:J [] (Qa m3 f [((2:Int),(u:Int)),((2:Int),(v:Int))]) l (((2:Int),(u:Int))::((2:Int),(v:Int))::((1:Int),(f:Int))::(F::ws++(Qy1 G++L))) T:=by refine J.fill _ (h3.permc (λw=> ?_) (λ_=>rfl)) (by omega) (by rw[V];rfl) (by rw[V];simp[aW]);simp only[Bw,List.count_append,List.count_cons,List.count_nil];omega
 have M:=Qh1 m3 f [((2:Int),(u:Int)),((2:Int),(v:Int))];rw[V]at M;have l4:(mC (Qa m3 f [((2:Int),(u:Int)),((2:Int),(v:Int))])).length=(mC m):=by rw[M,Bl,l3]
 have A2:CO [c,d] (mC (Qa m3 f [((2:Int),(u:Int)),((2:Int),(v:Int))])):=by rw[M,K];refine((((o.mono (raw':=f:: [c,d]) (λi hi=>Aa _ hi)).set (.inl Ae)).set (.inr Qbh)).set (.inr Qbh)).set (.inl Ae)|>.close ?_;rw[Z2,if_pos ⟨rfl,by simp only[Bl];exact a⟩];refine⟨?_,by simp[aW]⟩;show Ze (4,B,0,[],[((2:Int),(u:Int)),((2:Int),(v:Int))])=Bn;simp[Ze,aK,aL,aV,aD,aW,Yb,Zb,V4,Q03,Zm,Zf,Zd,Y9,Qxi,n]
 generalize Qa m3 f [((2:Int),(u:Int)),((2:Int),(v:Int))]=m4 at *
 have g:Q9 (mC m4) c=(k,lv,C,E,wc):=by rw[M,Z2,if_neg (by omega),A0]
 have A3:Q9 (mC m4) d=(k,lv,C,E,H):=by rw[M,Z2,if_neg (by omega),A1]
 have h5:=h4.addW (i:=c) (by omega) (by rw[g];exact O);have P:mC (J4 m4 c (2,(u:Int)))=(mC m4).set c (k,lv,C,E,wc++ [((2:Int),(u:Int))]):=by unfold J4;rw[Qh1];show(mC m4).set c (_,_,_,_,aW (Q9 (mC m4) c)++_)=_;rw[g];rfl
 have A4:CO [c,d] (mC (J4 m4 c (2,(u:Int)))):=by rw[P];exact A2.set (.inl (by simp))
 have l5:(mC (J4 m4 c (2,(u:Int)))).length=(mC m):=by rw[P,Bl,l4]
 generalize J4 m4 c (2,(u:Int))=m5 at *
 have A5:Q9 (mC m5) c=(k,lv,C,E,wc++ [((2:Int),(u:Int))]):=by rw[P,Z2,if_pos ⟨rfl,by omega⟩]
 have j:Q9 (mC m5) d=(k,lv,C,E,H):=by rw[P,Z2,if_neg (by omega),A3]
 have h6:=h5.addW (i:=d) (by omega) (by rw[j];exact O);have S:mC (J4 m5 d (2,(v:Int)))=(mC m5).set d (k,lv,C,E,H++ [((2:Int),(v:Int))]):=by unfold J4;rw[Qh1];show(mC m5).set d (_,_,_,_,aW (Q9 (mC m5) d)++_)=_;rw[j];rfl
 refine⟨?_, ?_, ?_, ?_, ?_⟩
 ·refine h6.permc (λw=> ?_) (λ_=>rfl)
  rw[Qlg];simp only[Bw,List.count_append,List.count_cons,List.count_nil];omega
 ·rw[S];exact A4.set (.inl (by simp))
 ·rw[S,Bl,l5]
 ·rw[S,Z2,if_neg (by omega),A5]
 rw[S,Z2,if_pos ⟨rfl,by omega⟩]
def Qkf{L R1:List Wd}{E:Int}(O:0<=E/\E<=8){c d:Nat}(P:c≠d){k lv K:Int}{M:List Int}(S:Y9 k=Bn):∀(ws:List Wd) (l:List Nat) (m:Qyb) (C:List Qy3) (wc F:List Wd),J [] m l (ws++(Qy1 C++L)) R1->CO [c,d] (mC m)->3 * ws.length<=l->c<(mC m)->d<(mC m)->
  Q9 (mC m) c=(k,lv,K,M,wc)->Q9 (mC m) d=(k,lv,K,M,F)->(∀w∈wc,w.1≠0)->(∀w∈F,w.1≠0)->∃l' G H,J [] (ws.foldl (Zq E c d) (m,C)).1 l' (Qy1 (ws.foldl (Zq E c d) (m,C)).2++L) R1/\CO [c,d] (mC (ws.foldl (Zq E c d) (m,C)).1)/\
   Q9 (mC (ws.foldl (Zq E c d) (m,C)).1) c=(k,lv,K,M,G)/\Q9 (mC (ws.foldl (Zq E c d) (m,C)).1) d=(k,lv,K,M,H)/\G.length=wc+ws.length/\H.length=F+ws.length/\(∀w∈G,w.1≠0)/\(∀w∈H,w.1≠0)
 | [],l,m,C,wc,F,h,hc,_,_,_,gc,gd,r1,r2=>⟨l,wc,F,h,hc,gc,gd,rfl,rfl,r1,r2⟩
 |w::ws,f::u::v::l,m,C,wc,F,h,hc,hl,hcl,hdl,gc,gd,r1,r2=>by
  obtain⟨T,U,n,V,W⟩:=Qre O h hc P hcl hdl gc gd S
  obtain⟨l',G,H,X,Y,a,b,e,g,i,j⟩:=Qkf O P S ws l (Zq E c d (m,C) w).1 (Zq E c d (m,C) w).2 _ _ T U (by simp only[Br]at hl;omega) (by omega) (by omega) V W
   (λx B=>by rcases At0.1 B with B|B;exact r1 x B;rw[Bb.1 B];simp) (λx B=>by rcases At0.1 B with B|B;exact r2 x B;rw[Bb.1 B];simp)
  exact⟨l',G,H,X,Y,a,b,by rw[e];simp;omega,by rw[g];simp;omega,i,j⟩
 |w::ws,[],_,_,_,_,_,_,hl,_,_,_,_,_,_=>by simp at hl
 |w::ws,[_],_,_,_,_,_,_,hl,_,_,_,_,_,_=>by simp at hl;omega
 |w::ws,[_,_],_,_,_,_,_,_,hl,_,_,_,_,_,_=>by simp at hl;omega
def Qor(k lv vv:Int)(dd:List Int)(r:Nat):Bool:=
 if k==0 then lv==0 && ((dd:Int)==0 && ((r:Int)==0))else if k==13 then lv==0 && (vv==0 && ((dd:Int)==0 && decide ((r:Int)<2)))else Y9 k && Yb (k,lv,vv,dd,Ch (r+1) (0,0))
def Qdm{k lv B C ws}{E:List Wd}(h:Ze (k,lv,B,C,ws)=Bn)(F:E.length=ws):Ze (k,lv,B,C,E)=Bn:=by
 have:∀us:List Wd,Ze (k,lv,B,C,us)=Qor k lv B C us:=λus=>rfl;grind
def Qww{L G m l x y}(a:0<=aL x/\aL x<=8)(H:(aW x).length=2)(b:Ze y=Bn)(K:Y9 (aK y)=Bn)(h:J [] m l (aW y++(aW x++L)) G)(f:CO [] (mC m))(B:2+3 * (aW y).length<=l):
  ∃l',J [] (Qa4 m x y).1 l' (Qy1 (Qa4 m x y).2++L) G/\CO [] (mC (Qa4 m x y).1):=by
 obtain⟨c,d,l,rfl⟩:∃c d l',l=c::d::l':=by
  match l,B with
  |c::d::l',_=>exact⟨c,d,l',rfl⟩
  | [],B=>simp at B
  | [_],B=>simp at B;omega
 obtain⟨C,E,H⟩:∃C E,aW x=[C,E]:=by
  match aW x,H with
  | [C,E],_=>exact⟨C,E,rfl⟩
 obtain⟨⟨t,P,S,T⟩,g⟩:=h.new1 (aK y,aL y,aV y,aD y,[]) K (by simp[aW]);obtain⟨⟨u,M,v,j⟩,k⟩:=g.new1 (aK y,aL y,aV y,aD y,[]) K (by simp[aW]);simp only[List.mem_cons,not_or]at S;rw[T,Bl]at M;have F:mC (Qi (Qi m (aK y,aL y,aV y,aD y,[])) (aK y,aL y,aV y,aD y,[]))=((mC m).set c (aK y,aL y,aV y,aD y,[])).set d (aK y,aL y,aV y,aD y,[]):=by rw[j,T]
 have e:Qa4 m x y=(aW y).foldl (Zq (aL x) (c:Int) (d:Int)) (Qi (Qi m (aK y,aL y,aV y,aD y,[])) (aK y,aL y,aV y,aD y,[]),[(C,((1:Int),(c:Int))),(E,((1:Int),(d:Int)))]):=by grind[Qa4]
 have n:CO [c,d] (((mC m).set c (aK y,aL y,aV y,aD y,[])).set d (aK y,aL y,aV y,aD y,[])):=((f.mono (λi o=>by cases o)).set (.inl (by simp))).set (.inl (by simp))
 obtain⟨l',wc,z,U,V,W,X,p,q,r,s⟩:=Qkf (L:=L) (R1:=G) a S.1 K (aW y) l (Qi (Qi m (aK y,aL y,aV y,aD y,[])) (aK y,aL y,aV y,aD y,[])) [(C,((1:Int),(c:Int))),(E,((1:Int),(d:Int)))] [] []
  (k.permc (λw=>by rw[H];simp only[Qy1,Cr,List.flatMap_nil,Bw,Bs,Cl,List.count_append,List.count_cons];omega) (λ_=>rfl)) (by rw[F];exact n) (by simp only[Br]at B;omega) (by rw[F];simp only[Bl];exact P) (by rw[F];simp only[Bl];exact M)
  (by rw[F];simp only[Z2,Bl];rw[if_neg (by omega),if_pos ⟨trivial,P⟩]) (by rw[F];simp only[Z2,Bl];rw[if_pos ⟨trivial,M⟩]) (λw O=>by cases O) (λw O=>by cases O)
 rw[<-e]at U V W X;refine⟨l',U, ?_⟩;have Y:Ze (aK y,aL y,aV y,aD y,aW y)=Bn:=b;refine CO.close (i:=d) (CO.close (i:=c) V ?_) ?_
 ·rw[W];exact⟨Qdm Y (by rw[p];simp),r⟩
 rw[X];exact⟨Qdm Y (by rw[q];simp),s⟩
def Qef(l:List Nat):List Wd:=l.map λ(i:Nat)=>((1:Int),((i:Nat):Int))
theorem Qph(a l):Qef (a::l)=((1:Int),(a:Int))::Qef l:=rfl
theorem Qij(a:Nat)(l):Qef (l++ [a])=Qef l++ [((1:Int),(a:Int))]:=by simp[Qef]
def Q98{l:List Nat}{n:Nat}(h:n<l):l.drop n=l.getD n 0::l.drop (n+1)/\l.take (n+1)=l.take n++ [l.getD n 0]:=by
 simp_all
def Qtx{L H:List Wd}{lv:Int}{m:Qyb}{l:List Nat}(h:J [] m l L H):∀n,n<=l.length->J [] (Yy m lv n).1 (l.drop n) (Qef (l.take n)++L) H/\(Yy m lv n).2=(l.take n).map (λi:Nat=>(i:Int))/\(mC (Yy m lv n).1).length=(mC m)/\
  (∀E,CO E (mC m)->CO (l.take n++E) (mC (Yy m lv n).1))/\(∀i∈l.take n,Q9 (mC (Yy m lv n).1) i=(3,lv,0,[],[]))/\∀i∈l.take n,i<(mC m).length
 |0,_=>⟨h,rfl,rfl,λ_ h=>h,λi B=>(by simp at B),λi B=>(by simp at B)⟩
 |n+1,hn=>by
  obtain⟨F,P,K,S,M,T⟩:=Qtx (lv:=lv) h n (by omega);obtain⟨U,C⟩:=Q98 (show n<l.length by omega);rw[U]at F;obtain⟨⟨f1,O,X,G⟩,g⟩:=F.new1 (3,lv,0,[],[]) rfl (by simp[aW]);have Y:∀i∈l.take n,i≠l.getD n 0:=λi B e=>by have V:=M i B;have:=(Q5l F.free (l.getD n 0) Ae).2;rw[<-e,V]at this;exact absurd (show(3:Int)=0 from this) (by decide)
  refine⟨?_, ?_, ?_, ?_, ?_, ?_⟩
  ·show J [] (Qi _ _) _ _ _
   refine g.permc (λv=> ?_) (λ_=>rfl);rw[C,Qij];simp only[List.count_append,List.count_cons,List.count_nil];omega
  ·show(Yy m lv n).2++ [mF (Yy m lv n).1]=_
   rw[P,f1,C,Ep];rfl
  ·show(mC (Qi _ _)).length=_
   rw[G,Bl,K]
  ·intro E W
   show CO _ (mC (Qi _ _));rw[G,C];refine((S E W).mono (λi B=> ?_)).set (.inl (by simp));rcases At0.1 B with B|B
   ·simp[B]
   simp[B]
  ·intro i B
   show Q9 (mC (Qi _ _)) i=_;rw[G,Z2];rw[C]at B;split
   ·rfl
   rename_i e;rcases At0.1 B with B|B
   ·exact M i B
   exact absurd ⟨(Bb.1 B).symm,by rw[Bb.1 B];exact O⟩ e
  intro i B;rw[C]at B;rcases At0.1 B with B|B
  ·exact T i B
  rw[Bb.1 B,<-K];exact O
def Qcw{L C:List Wd}{lv:Int}(H:0<=lv/\lv<=8){x y:Qb}{A1:List Nat}{X T:List Wd}{m:Qyb}{l:List Nat}(hX:aW x=X)(d:X.length=A1)(f:T.length=A1)(K:∀i,i<A1.length->(if i+1<A1.length then((1:Int),((A1.getD (i+1) 0:Nat):Int))else(aW y).getD 0 (0,0))=T.getD i (0,0))(M:A1.Nodup)
  (h:J [] m l (X++T++L) C) (O:CO A1 (mC m)) (P:∀i∈A1,Q9 (mC m) i=(3,lv,0,[],[])) (S:∀i∈A1,i<(mC m).length):∀k,k<=A1.length->
  J [] ((Bz k).foldl (Zr x y (A1.map λi:Nat=>(i:Int))) m) l (X.drop k++T.drop k++L) C/\CO (A1.drop k) (mC ((Bz k).foldl (Zr x y (A1.map λi:Nat=>(i:Int))) m))/\
   (∀i∈A1.drop k,Q9 (mC ((Bz k).foldl (Zr x y (A1.map λi:Nat=>(i:Int))) m)) i=(3,lv,0,[],[]))/\(mC ((Bz k).foldl (Zr x y (A1.map λi:Nat=>(i:Int))) m)).length=(mC m)
 |0,_=>⟨h,O,P,rfl⟩
 |k+1,hk=>by
  obtain⟨U,V,E,g⟩:=Qcw H hX d f K M h O P S k (by omega);rw[List.range_succ,List.foldl_append,Cb,List.foldl_nil];generalize (Bz k).foldl (Zr x y (A1.map λi:Nat=>(i:Int))) m=mk at *
  obtain⟨W,r⟩:=Q98 (show k<A1.length by omega);have Y:X.drop k=X.getD k (0,0)::X.drop (k+1):=by rw[Dq (by omega),Ab,Ad (by omega)];rfl
  have a:T.drop k=T.getD k (0,0)::T.drop (k+1):=by rw[Dq (by omega),Ab,Ad (by omega)];rfl
  rw[W]at V E;have n:A1.getD k 0∈A1:=by rw[Ab,Ad (by omega)];exact As _
  have F:=E _ Ae;have s:=S _ n;have o:A1.getD k 0∉A1.drop (k+1):=by have:=List.Nodup.sublist (List.drop_sublist k A1) M;rw[W]at this;exact(Ar.1 this).1
  have p:Zr x y (A1.map λi:Nat=>(i:Int)) mk k=Qa mk ((A1.getD k 0:Nat):Int) [X.getD k (0,0),T.getD k (0,0)]:=by
   unfold Zr Q1r;have b:∀j,(A1.map λi:Nat=>(i:Int)).getD j 0=((A1.getD j 0:Nat):Int):=λj=>by rw[Ab,Ab,List.getElem?_map];cases A1[j]?<;>rfl
   rw[b,b,hX,De,K k (by omega)]
  rw[p];have B:=Qh1 mk (A1.getD k 0) [X.getD k (0,0),T.getD k (0,0)];rw[F]at B;have q:J [] (Qa mk ((A1.getD k 0:Nat):Int) [X.getD k (0,0),T.getD k (0,0)]) l (X.drop (k+1)++T.drop (k+1)++L) C:=by refine J.fill _ (U.permc (λw=> ?_) (λ_=>rfl)) (by omega) (by rw[F];rfl) (by rw[F];simp[aW]);rw[Y,a];simp only[Bw,Bs,Co,List.count_append,List.count_cons];omega
  refine⟨q, ?_, ?_,by rw[B,Bl,g]⟩
  ·rw[B]
   refine CO.close (V.set (.inl Ae)) ?_;rw[Z2,if_pos ⟨rfl,by omega⟩];refine⟨?_, ?_⟩
   ·show Ze (3,lv,0,[],[X.getD k (0,0),T.getD k (0,0)])=Bn
    simp[Ze,aK,aL,aV,aD,aW,Yb,Zb,V4,Q03,Zm,Zf,Zd,Y9,Qxi,H]
   intro w G;have G:w=X.getD k (0,0)\/w=T.getD k (0,0):=by simpa[aW]using G
   refine U.real (w:=w) ?_;rw[Y,a];rcases G with rfl|rfl<;>simp
  intro i c;rw[B,Z2,if_neg (λe=>o (by rw[e.1];exact c))];exact E i (Aa _ c)
def J.redexM{E m l L B}(h:J E m l L B)(a b):J E (Ya m a b) l L B:=⟨h.free,h.cover,h.empty,h.words,h.loose,h.reds,h.uses⟩
def Qvx{x y}(B:Ze y=Bn)(C:aK y=10\/aK y=11)(E:aK y=10->0<=aV x/\aV x<(aD y)):Q3p (Vx x y)=Bn/\Qxi (aL y) 0 8=Bn:=by
 obtain⟨-,F,G⟩:=Q2r B (by rcases C with e|e<;>rw[e]<;>rfl);have H:∀j,j<(aD y).length->(aD y).all Q3p=Bn->Q3p ((aD y).getD j 0)=Bn:=λj J K=>by grind
 grind[Zm,Zf,Zd,Vx]
def Qrp{L M m l x y}(W:Ze y=Bn)(Y:aK y=10\/aK y=11)(p:aK y=10->0<=aV x/\aV x<(aD y))(h:J [] m l (aW y++(aW x++L)) M)(q:CO [] (mC m))(F:1+(aW x).length<=l)(r:mX m=[]):
  ∃l',J [] (Jx m x y).1 l' (Qy1 (Jx m x y).2++L) (mX (Jx m x y).1++M)/\CO [] (mC (Jx m x y).1):=by
 obtain⟨c,l,rfl⟩:∃c l',l=c::l':=by
  match l,F with
  |c::l',_=>exact⟨c,l',rfl⟩
  | [],F=>simp at F
 have t:=Q2t W (by rcases Y with e|e<;>rw[e]<;>rfl);obtain⟨E,O⟩:∃E,aW y=[E]:=by
  have:=t.2.1 (by omega);match aW y,this with
  | [E],_=>exact⟨E,rfl⟩
 obtain⟨u,v⟩:=Qvx (x:=x) W Y p;have P:=Qj.1 v;obtain⟨⟨z,a2,a3,a4⟩,b⟩:=h.new1 (12,aL y,Vx x y,[],[]) rfl (by simp[aW]);have d:CO [] (mC (Qi m (12,aL y,Vx x y,[],[]))):=by rw[a4];refine q.set (.inr ⟨?_,by simp[aW]⟩);show Ze (12,aL y,Vx x y,[],[])=Bn;simp[Ze,aK,aL,aV,aD,aW,Yb,Zb,V4,Q03,Zm,Zf,Zd,Y9,Qxi,u]at P⊢;exact P
 obtain⟨S,g,g3,j,g5,g6⟩:=Qtx (lv:=aL y) b (aW x) (by simp only[Br]at F;omega);have G:(l.take (aW x)).length=(aW x):=by rw[Cf];simp only[Br]at F;omega
 have U:mX (Yy (Qi m (12,aL y,Vx x y,[],[])) (aL y) (aW x)).1=[]:=by rw[Qba];exact r
 unfold Jx;simp only[z];rw[show(Yy (Qi m (12,aL y,Vx x y,[],[])) (aL y) (aW x)).2.length=(aW x) by rw[g,De,G]];by_cases H:(aW x).length=0
 ·rw[if_pos H]
  refine⟨l, ?_, ?_⟩
  ·rw[H]at S U⊢
   rw[U];have A0:=Do H;refine S.permc (λw=> ?_) (λ_=>by simp);rw[O,A0];simp[Qef,Qy1];simp only[List.count_cons];omega
  have:=j [] d;rw[H]at this⊢;exact this
 rw[if_neg H];have A2:(l.take (aW x)).Nodup:=List.Nodup.sublist (List.take_sublist _ _) (Jm.nodup b.free);generalize hA:l.take (aW x).length=k at *
 rw[g];generalize Yy (Qi m (12,aL y,Vx x y,[],[])) (aL y) (aW x).length=s at *
 obtain⟨C,B,rfl⟩:∃a B,k=a::B:=by
  match k,G with
  |a::B,_=>exact⟨a,B,rfl⟩
  | [],G=>simp at G;omega
 have A3:∀i,i<(C::B).length->(if i+1<(C::B).length then((1:Int),(((C::B).getD (i+1) 0:Nat):Int))else(aW y).getD 0 (0,0))=(Qef B++ [E]).getD i (0,0):=λi V=>by
  simp only[Br]at V⊢;rw[List.getD_cons_succ,Ab,Ab (l:=Qef B++ [E]),List.getElem?_append];have ol:(Qef B).length=B.length:=by simp[Qef]
  rw[ol];by_cases K:i<B.length
  ·rw[if_pos (by omega),if_pos K,Ad K]
   simp[Qef,K]
  rw[if_neg (by omega),if_neg K,O,show i-B.length=0 by omega];rfl
 obtain⟨n,o,k3,k4⟩:=Qcw (L:=((1:Int),(c:Int))::((1:Int),(C:Int))::L) (x:=x) (y:=y) (A1:=C::B) (X:=aW x) (T:=Qef B++ [E]) (l:=l.drop (aW x)) (lv:=aL y) P rfl (by omega) (by simp[Qef]) A3 A2
  (S.permc (λw=>by rw[Qph,O];simp only[Bw,Bs,Co,List.count_append,List.count_cons];omega) (λ_=>rfl)) (by have:=j [] d;rwa [Cl]at this) g5 (λi V=>by rw[g3];exact g6 i V) (C::B) (Aj _)
 rw[<-G];have kx:mX ((Bz (C::B)).foldl (Zr x y ((C::B).map λi:Nat=>(i:Int))) s.1)=[]:=(Qhj (f:=Zr x y ((C::B).map λi:Nat=>(i:Int))) (λ_ _=>rfl) _ _).trans U;generalize (Bz (C::B)).foldl (Zr x y ((C::B).map λi:Nat=>(i:Int))) s.1=mm at *
 have e1:(aW x).drop (C::B).length=[]:=Ey (by omega);have e2:(Qef B++ [E]).drop (C::B).length=[]:=Ey (by simp[Qef]);rw[e1,e2]at n;refine⟨l.drop (aW x), ?_, ?_⟩
 ·show J [] (Ya mm _ _) _ ([]++L) ((mX mm++ [(min (c:Int) ((C:Nat):Int),max (c:Int) ((C:Nat):Int))])++M)
  rw[kx];exact n.join.redexM _ _
 show CO [] (mC mm);have e3:(C::B).drop (C::B).length=[]:=Ey (Aj _);rw[e3]at o;exact o
def Qb3(b):0<=Q22 b/\Q22 b<=1:=by grind[Q22]
def Qng(B a b):Qxi (J6 B a b) (-2147483648) 2147483647=Bn:=by
 grind[Q5r,Qj,J6,Q22]
def Qw5{L M m l x y}(U:Ze x=Bn)(O:aK x=6)(V:Ze y=Bn)(C:aK y=7\/aK y=8)(h:J [] m l (aW y++(aW x++L)) M)(W:CO [] (mC m))(a:1<=l.length):
  ∃l',J [] (Q40 m x y).1 l' (Qy1 (Q40 m x y).2++L) M/\CO [] (mC (Q40 m x y).1):=by
 obtain⟨c,l,rfl⟩:∃c l',l=c::l':=by
  match l,a with
  |c::l',_=>exact⟨c,l',rfl⟩
 have b:=Do ((Q2t U (by rw[O];rfl)).2.2.1 (by omega));have X:=Q2r V (by rcases C with e|e<;>rw[e]<;>rfl);have d:=Q2r U (by rw[O];rfl);have Y:=Q2t V (by rcases C with e|e<;>rw[e]<;>rfl);rw[b,Bs]at h;unfold Q40;rcases C with C|C
 ·obtain⟨B,E,F⟩:∃B E,aW y=[B,E]:=by
   have:=Y.1 (by omega);match aW y,this with
   | [B,E],_=>exact⟨B,E,rfl⟩
  have k:E.1≠0:=h.real (by rw[F];simp);rw[if_neg (by rw[C];decide),F];simp only[List.getD_cons_succ,List.getD_cons_zero];have f:J [] m (c::l) (aW ((8,aL y,aV y,[aV x],[E]):Qb)++(B::L)) M:=h.permc (λw=>by rw[F];simp only[aW,Bw,Bs,List.count_cons];omega) (λ_=>rfl);obtain⟨⟨P,g,i,S⟩,T⟩:=J.newW _ f rfl;rw[P];refine⟨l,T.permc (λw=>by simp only[Qy1,Cr,List.flatMap_nil,Bw,Bs,List.count_cons];omega) (λ_=>rfl), ?_⟩;rw[S];refine W.set (.inr ⟨?_,λw n=> ?_⟩)
  ·have G:=X.2.1;have H:=X.2.2;have K:=d.2.2
   unfold Zm at G;unfold Zd at H K;rw[C]at G H;rw[O]at K;simp[Zf]at G H K;show Ze (8,aL y,aV y,[aV x],[E])=Bn;simp[Ze,aK,aL,aV,aD,aW,Yb,Zb,V4,Q03,Zm,Zf,Zd,Y9]at G H K⊢;exact⟨by decide,G,H.2,K.2⟩
  grind[aW]
 obtain⟨B,F⟩:∃B,aW y=[B]:=by
  have:=Y.2.1 (by omega);match aW y,this with
  | [B],_=>exact⟨B,rfl⟩
 rw[if_pos (by rw[C];decide),F];simp only[List.getD_cons_zero];obtain⟨⟨P,g,i,S⟩,T⟩:=h.new1 (6,0,J6 (aV y) ((aD y).getD 0 0) (aV x),[],[]) rfl (by simp[aW]);rw[P];refine⟨l,T.permc (λw=>by rw[F];simp only[Qy1,Cr,List.flatMap_nil,Bw,Bs,List.count_cons];omega) (λ_=>rfl), ?_⟩;rw[S];refine W.set (.inr ⟨?_,by simp[aW]⟩);have j:=Qng (aV y) ((aD y).getD 0 0) (aV x);generalize J6 (aV y) ((aD y).getD 0 0) (aV x)=q at *
 simp[Ze,aK,aL,aV,aD,aW,Yb,Zb,V4,Q03,Zm,Zf,Zd,Y9,Q28,j];decide
def Q4i(n:Qy0):(Qk n).Nodup:=by
 grind[Qk,Q0k,List.nodup_range]
def Q9h{α:Type}(f:α->α):∀L:List α,L.Nodup->(∀a∈L,f (f a)=a)->(∀a∈L,f a∉L)->(L.flatMap λa=> [a,f a]).Nodup
 | [],_,_,_=>by simp
 |a::L,hn,hi,hd=>by
  have E:=Ar.1 hn;have G:=Q9h f L E.2 (λb C=>hi b (Aa _ C)) (λb C B=>hd b (Aa _ C) (Aa _ B));have F:=hd a Ae;have H:a∉L.flatMap λa=> [a,f a]:=λB=>by
   obtain⟨b,C,B⟩:=Cz.1 B;simp only[List.mem_cons,Cs,or_false]at B;rcases B with rfl|rfl
   ·exact E.1 C
   exact F (by rw[hi b (Aa _ C)];exact Aa _ C)
  have J:f a∉L.flatMap λa=> [a,f a]:=λB=>by
   obtain⟨b,C,B⟩:=Cz.1 B;simp only[List.mem_cons,Cs,or_false]at B;rcases B with B|B
   ·exact F (by rw[B];exact Aa _ C)
   have:=hi a Ae;rw[B,hi b (Aa _ C)]at this;exact E.1 (this▸C)
  show(a::f a::L.flatMap λa=> [a,f a]).Nodup;rw[Ar,Ar];refine⟨λB=> ?_,J,G⟩;rcases Aq.1 B with e|B
  ·exact F (by rw[<-e];exact Ae)
  exact H B
theorem Qgj{p q}(h:Vm p q=Bn)(k:Vm q p=Bn):False:=by
 unfold Vm at h k;grind
def Q2g(n:Qy0):List Wd:=(Zg n).flatMap λw=> [w.1,w.2]
def Q0q(n:Qy0):List Wd:=(Qk n).filter (Q8r n)
theorem Ql5(n):Q2g n=((Qk n).filter λp=>Vm p (Qe n p) && (decide (0<p.2) && decide (0<(Qe n p).2))).flatMap λp=> [p,Qe n p]:=by
 unfold Q2g Zg Yw;rw[List.filter_map,List.flatMap_map,List.filter_filter];grind
theorem Qi2{n:Qy0}(h:Yd n=Bn)(p):p∈Q2g n↔p∈Qk n/\0<p.2/\0<(Qe n p).2:=by
 rw[Ql5,Cz];simp only[Di,Bi,decide_eq_true_eq,List.mem_cons,Cs,or_false];constructor
 ·grind[J1]
 grind[J1,Qcr]
def Qjo{n:Qy0}(h:Yd n=Bn):(Q2g n).Nodup:=by
 rw[Ql5];refine Q9h _ _ (List.Pairwise.filter _ (Q4i n)) (λp B=>(J1 h (Di.1 B).1).2.2) (λp B C=> ?_);obtain⟨G,E⟩:=Di.1 B;obtain⟨H,F⟩:=Di.1 C;simp only[Bi]at E F;grind[J1,Qgj]
theorem Q2h{n p}:p∈Q0q n↔p∈Qk n/\0<p.2/\(Qe n p).2=0:=by
 unfold Q0q Q8r;grind
def Qmh{n:Qy0}(h:Yd n=Bn):(Q2g n++Q0q n).Nodup:=by
 rw[Ba];refine⟨Qjo h,List.Pairwise.filter _ (Q4i n),λa B b C e=> ?_⟩;grind[Qi2,Q2h]
def Qfx{n:Qy0}(h:Yd n=Bn)(p):p∈Q2g n++Q0q n↔p∈Qk n/\0<p.2:=by
 grind[Qi2,Q2h,Yn,J1]
def Qfh(n:Qy0):List Wd:=(Bz n).map λ(i:Nat)=>((i:Int),(0:Int))
def Q4s(n:Qy0):List Wd:=(Y5 n).flatMap λp=> [(p.1,0),(p.2,0)]
def Q3r(n:Qy0):List Wd:=if(Qe n (0,0)).2==0 then [(0,0),Qe n (0,0)]else []
theorem Q69{n:Qy0}(h:Yd n=Bn)(p):p∈Qfh n↔p∈Qk n/\p.2=0:=by
 grind[Qfh,Yn,Q1t,Yl,Q7]
def Qct(n):(Qfh n).Nodup:=by
 grind[Qfh,List.nodup_range]
theorem Qkx{n}:Q4s n=((Qfh n).filter λp=>p.1 !=0 && ((Qe n p).2==0 && decide (p.1<(Qe n p).1))).flatMap λp=> [p,Qe n p]:=by
 unfold Q4s Y5 Qfh;rw[List.filter_map,List.flatMap_map,List.flatMap_map];have e:(Bz n).filter ((λp:Wd=>p.1 !=0 && ((Qe n p).2==0 && decide (p.1<(Qe n p).1)))∘λi:Nat=>((i:Int),(0:Int)))=(Bz n).filter λ(i:Nat)=>i !=0 && ((Qe n ((i:Int),0)).2==0 && decide ((i:Int)<(Qe n ((i:Int),0)).1)):=by
  congr 1
  grind
 rw[e,List.flatMap_def,List.flatMap_def];congr 1
 refine List.map_congr_left λi B=> ?_;grind
theorem Q5i{n:Qy0}(h:Yd n=Bn)(p):p∈Q4s n↔p∈Qk n/\p.2=0/\(Qe n p).2=0/\p.1≠0/\(Qe n p).1≠0:=by
 rw[Qkx,Cz];simp only[Di,Bi,decide_eq_true_eq,List.mem_cons,Cs,or_false,beq_iff_eq,bne_iff_ne,Q69 h];constructor
 ·grind[Yn,J1]
 grind[J1]
def Qmi{n:Qy0}(h:Yd n=Bn):(Qfh n).Perm ((Q0q n).map (Qe n)++(Q4s n++Q3r n)):=by
 have F:((0:Int),(0:Int))∈Qk n:=((Q69 h _).1 (Dx.2 ⟨0,Cy.2 (Q47 h).1,rfl⟩)).1;have r:=J1 h F;have G:∀p,p∈(Q0q n).map (Qe n)↔p∈Qk n/\p.2=0/\0<(Qe n p).2:=λp=>by grind[Q2h,J1]
 have H:∀p,p∈Q3r n↔(Qe n (0,0)).2=0/\(p=(0,0)\/p=Qe n (0,0)):=λp=>by unfold Q3r;grind
 have zero:∀p,p∈Qk n->p.1=0->p=(0,0):=λp B J=>Q64 h B J;refine(List.perm_ext_iff_of_nodup (Qct n) ?_).2 λp=> ?_
 ·rw[Ba]
  refine⟨?_, ?_,λa C b E e=> ?_⟩
  ·unfold List.Nodup
   rw[List.pairwise_map];refine List.Pairwise.imp_of_mem (λ{a b} C E K e=>K ?_) (List.Pairwise.filter _ (Q4i n));grind[J1,Q2h]
  ·rw[Ba]
   refine⟨?_, ?_,λa C b E e=> ?_⟩
   ·rw[Qkx]
    refine Q9h _ _ (List.Pairwise.filter _ (Qct n)) (λp B=>(J1 h ((Q69 h p).1 (Di.1 B).1).1).2.2) (λp B L=> ?_);obtain⟨P,M⟩:=Di.1 B;obtain⟨S,O⟩:=Di.1 L;simp only[Bi,decide_eq_true_eq]at M O;grind[J1,Q69]
   ·unfold Q3r
    grind
   grind[Q5i]
  grind[Q5i]
 rw[Q69 h,At0,At0,G,Q5i h,H];constructor
 ·grind[J1,Yn]
 grind
def Qxh(A:List Nat):List Int:=A.map λ(i:Nat)=>((i:Nat):Int)
theorem Qk8(B i):(Qxh B).getD i 0=((B.getD i 0:Nat):Int):=by
 unfold Qxh;grind
def Qyh(A:List Nat)(p:Wd):Wd:=((1:Int),(Qxh A).getD p.1.toNat 0)
def Qxl(x:Qb)(l:Int):Int:=if Zf (aK x)then aL x+l else aL x
def Qks(k l v:Int)(d:List Int)(r:Nat):Bool:=decide (0<V4 k (Q03 k r)) && ((r:Int)==V4 k (Q03 k r)) && Zm k l && Zd k v d
theorem Qgz(x):Yb x=Qks (aK x) (aL x) (aV x) (aD x) (aW x):=rfl
def Qsz{x lv}{ws:List Wd}(B:Yb x=Bn)(C:Y9 (aK x)=Bn)(E:Zf (aK x)=Bn->0<=aL x+lv/\aL x+lv<=8)(F:ws.length=(aW x)-1):Ze (aK x,Qxl x lv,aV x,aD x,ws)=Bn:=by
 have G:=Q1t B;have H:=Qj.1 C;have:Ze (aK x,Qxl x lv,aV x,aD x,ws)=(if aK x==0 then Qxl x lv==0 && (((aD x):Int)==0 && ((ws:Int)==0))else if aK x==13 then Qxl x lv==0 && (aV x==0 && (((aD x):Int)==0 && decide ((ws:Int)<2)))else Y9 (aK x) && Qks (aK x) (Qxl x lv) (aV x) (aD x) (Ch (ws+1) ((0:Int),(0:Int))).length):=rfl;rw[this,if_neg (by simp;omega),if_neg (by simp;omega),C,Eh,show ws.length+1=(aW x).length by omega];rw[Qgz]at B;unfold Qks at B⊢;simp only[Bi]at B⊢;grind[Zm,Qxl,Qj]
def Qex{n:Qy0}(h:Yd n=Bn){i:Nat}(H:1<=i)(C:i<n):Y9 (aK (Q9 n i))=Bn:=by
 have B:=(Yl h).2.1 i C;unfold Yd Jr at h;simp only[Bi]at h;have F:=Bf.1 h.1.2 i (Cy.2 C);simp only[Bi]at F;have J:¬aK (Q9 n i)=1:=λe=>by grind
 rw[Qgz]at B;unfold Qks at B;simp only[Bi]at B;have E:=B.1.2;have G:Q28 (aK (Q9 n i))=Bn:=by
  unfold Zm at E;split at E
  ·grind[Q8h]
  grind
 have:=Qj.1 G;exact Qj.2 (by omega)
def Qxd(n:Qy0)(lv:Int)(A:List Nat)(Q:List Wd)(m:Qyb):Prop:=∀i,1<=i->i<n.length->∃ws:List Wd,Q9 (mC m) (A.getD i 0)=(aK (Q9 n i),Qxl (Q9 n i) lv,aV (Q9 n i),aD (Q9 n i),ws)/\ws.length=(aW (Q9 n i))-1/\
 ∀k,k<ws.length->((((i:Int),((k+1:Nat):Int))∈Q)->(ws.getD k (0,0)).1=0)/\(((i:Int),((k+1:Nat):Int))∉Q->(ws.getD k (0,0)).1≠0)
structure EX (n:Qy0) (lv:Int) (A:List Nat) (m0:Qyb) (Q:List Wd) (m:Qyb) (l:List Nat) (L R:List Wd):Prop where
 j:J [] m l L R
 fil:Qxd n lv A Q m
 len:(mC m).length=(mC m0).length
 co:CO (A.drop 1) (mC m)
 mx:mX m=mX m0
structure Qy8 (n:Qy0) (A:List Nat) (m0:Qyb):Prop where
 net:Yd n=Bn
 nd:A.Nodup
 len:A.length=n.length
 lt:∀i∈A,i<(mC m0).length
def Qkq{B:List Nat}{i:Nat}(h:i<B):B.getD i 0∈B:=by grind
def Qq4{B:List Nat}{i:Nat}(h:i<B)(C:1<=i):B.getD i 0∈B.drop 1:=by
 obtain⟨k,rfl⟩:∃k,i=k+1:=⟨i-1,by omega⟩;match B,h with
 |a::B,h=>grind
theorem EX.put{n lv B O p Q m l x L P}(C:Qy8 n B O)(h:EX n lv B O (p::Q) m l (x::L) P)(T:p∈Qk n)(c:0<p.2)(d:p∉Q):EX n lv B O Q (Qaq (Qxh B) m p x) l L P:=by
 obtain⟨⟨f,g⟩,-⟩:=Q7d C.net T c;obtain⟨-,-,U⟩:=Yn.1 T;obtain⟨i,k,o⟩:∃i k:Nat,p=((i:Int),((k+1:Nat):Int)):=⟨p.1.toNat,(p.2-1).toNat,Dz (by simp only;omega) (by simp only;omega)⟩;subst o;simp only at f g U;have q:Q7 n (i:Int)=Q9 n i:=rfl;rw[q]at U;obtain⟨ws,H,r,s⟩:=h.fil i (by omega) (by omega);have V:k<ws:=by omega
 have S:i<B:=by rw[C.len];omega
 have W:B.getD i 0<(mC m).length:=by rw[h.len];exact C.lt _ (Qkq S)
 have t:=Qex C.net (show 1<=i by omega) (by omega);have hz:=(s k V).1 Ae;have e:Qaq (Qxh B) m ((i:Int),((k+1:Nat):Int)) x=Qa m ((B.getD i 0:Nat):Int) (ws.set k x):=by unfold Qaq Qm;rw[Qk8];show Qa m _ ((aW (Q9 (mC m) (B.getD i 0))).set _ x)=_;grind[aW,Bq]
 rw[e];have F:=Qh1 m (B.getD i 0) (ws.set k x);rw[H]at F;have u:J [] (Qa m ((B.getD i 0:Nat):Int) (ws.set k x)) l L P:=by
  refine h.j.words' W (by rw[H];exact t) _ (λj=> ?_) (λw G=> ?_) (λw G=>Aa _ G)
  ·rw[H]
   show _=ws.countP _+_;grind[Qxf]
  rw[H];rcases Fv G with G|rfl
  ·exact .inr (.inl G)
  grind
 refine⟨u,λX v Y=> ?_,by rw[F,Bl,h.len], ?_,h.mx⟩
 ·by_cases a:X=i
  ·subst a
   refine⟨ws.set k x,by rw[F,Z2,if_pos ⟨rfl,W⟩];rfl,by rw[Bl];exact r,λE K=> ?_⟩;rw[Bl]at K;by_cases y:E=k
   ·subst y
    have:(ws.set E x).getD E (0,0)=x:=by rw[Ab,List.getElem?_set_self V];rfl
    rw[this];exact⟨λM=>absurd M d,λ_=>h.j.real Ae⟩
   grind
  obtain⟨z,k1,k2,b⟩:=h.fil X v Y;refine⟨z, ?_,k2,λE K=>⟨λM=>(b E K).1 (Aa _ M),λhn=>(b E K).2 λM=> ?_⟩⟩
  ·rw[F,Z2,if_neg (λe=>Q4x C.nd S (by rw[C.len];exact Y) (λe=>a e.symm) e.1)]
   exact k1
  grind
 rw[F];exact h.co.set (.inl (Qq4 S (by omega)))
def EX.neu{n lv C E Q m f l L G}(M:Qy8 n C E)(h:EX n lv C E Q m (f::l) L G):mF m=(f:Int)/\EX n lv C E Q (Qw m) l (((2:Int),(f:Int))::((2:Int),(f:Int))::L) G:=by
 obtain⟨⟨O,T,U,F⟩,B⟩:=h.j.newV;have H:=(Q5l h.j.free f Ae).2;refine⟨O,B,λi B J=> ?_,by rw[F,Bl,h.len], ?_,h.mx⟩
 ·obtain⟨ws,K,P,S⟩:=h.fil i B J
  refine⟨ws, ?_,P,S⟩;rw[F,Z2,if_neg]
  ·exact K
  rintro⟨e,-⟩;rw[e,K]at H;have:=Qex M.net B J;rw[show aK (Q9 n i)=0 from H]at this;exact absurd this (by decide)
 rw[F];exact h.co.set (.inr Qbh)
def Qhn{n lv B C Q L F}(E:Qy8 n B C):∀(W:List Qy3) (l:List Nat) (m:Qyb),EX n lv B C (W.flatMap (λw=> [w.1,w.2])++Q) m l L F->(W.flatMap (λw=> [w.1,w.2])++Q).Nodup->(∀w∈W,(w.1∈Qk n/\0<w.1.2)/\w.2∈Qk n/\0<w.2.2)->W.length<=l->
  ∃l',EX n lv B C Q (W.foldl (Q4l (Qxh B)) m) l' L F
 | [],l,m,h,_,_,_=>⟨l,h⟩
 |_::_,[],_,_,_,_,hl=>absurd hl (by simp)
 |(p,q)::W,f::l,m,h,hn,hp,hl=>by have J:(p::(q::(W.flatMap (λw=> [w.1,w.2])++Q))).Nodup:=hn;have G:=Ar.1 J;have H:=Ar.1 G.2;obtain⟨⟨K,M⟩,q1,O⟩:=hp _ Ae;have P:EX n lv B C (p::(q::(W.flatMap (λw=> [w.1,w.2])++Q))) m (f::l) L F:=h;obtain⟨S,T⟩:=P.neu E;have U:=T.put E K M G.1;have V:=U.put E q1 O H.1;refine Qhn E W l (Q4l (Qxh B) m (p,q)) ?_ H.2 (λw X=>hp w (Aa _ X)) (by simpa using hl);unfold Q4l;rw[S];exact V
def Qgh{n lv B C l L E}(F:Qy8 n B C):∀(P:List Wd) (m:Qyb),EX n lv B C P m l ((P.map (Qe n)).map (Qyh B)++L) E->P.Nodup->(∀p∈P,p∈Qk n/\0<p.2)->EX n lv B C [] (P.foldl (Q5s n (Qxh B)) m) l L E
 | [],m,h,_,_=>h
 |p::P,m,h,hn,hp=>by have G:=Ar.1 hn;have H:EX n lv B C (p::P) m l (Qyh B (Qe n p)::((P.map (Qe n)).map (Qyh B)++L)) E:=h;exact Qgh F P _ (H.put F (hp p Ae).1 (hp p Ae).2 G.1) G.2 λq J=>hp q (Aa _ J)
def Qe5{A1:List Nat}{l:List Nat}{L:List Wd}:∀(P:List Wd) (m:Qyb) (B:List Wd),J [] m l ((P.flatMap λp=> [(p.1,(0:Int)),(p.2,0)]).map (Qyh A1)++L) B->
  ∃Y,J [] (P.foldl (λm p=>Ya m ((Qxh A1).getD p.1.toNat 0) ((Qxh A1).getD p.2.toNat 0)) m) l L (Y++B)/\mX (P.foldl (λm p=>Ya m ((Qxh A1).getD p.1.toNat 0) ((Qxh A1).getD p.2.toNat 0)) m)=mX m++Y/\mC (P.foldl (λm p=>Ya m ((Qxh A1).getD p.1.toNat 0) ((Qxh A1).getD p.2.toNat 0)) m)=mC m
 | [],m,B,h=>⟨[],h,by simp,rfl⟩
 |p::P,m,B,h=>by
  have C:J [] m l (((1:Int),(Qxh A1).getD p.1.toNat 0)::((1:Int),(Qxh A1).getD p.2.toNat 0)::((P.flatMap λp=> [(p.1,(0:Int)),(p.2,0)]).map (Qyh A1)++L)) B:=h;obtain⟨Y,E,F,G⟩:=Qe5 P (Ya m ((Qxh A1).getD p.1.toNat 0) ((Qxh A1).getD p.2.toNat 0)) _ (C.join.redexM _ _);refine⟨(min ((Qxh A1).getD p.1.toNat 0) ((Qxh A1).getD p.2.toNat 0),max ((Qxh A1).getD p.1.toNat 0) ((Qxh A1).getD p.2.toNat 0))::Y,E.permc (λ_=>rfl) (λw=> ?_), ?_,G⟩
  ·simp only[Bw,List.count_append,List.count_cons];omega
  rw[Cb,F];show(mX m++ [_])++Y=_;simp
def Qtq{L H:List Wd}{n:Qy0}(K:Yd n=Bn){lv:Int}{m:Qyb}{l:List Nat}(h:J [] m l L H):∀j,j<n.length->j<=l.length->J [] (Jg n lv m j) (l.drop j) (Qef (l.take j)++L) H/\(mC (Jg n lv m j)).length=(mC m)/\
  (∀C,CO C (mC m)->CO (l.take j++C) (mC (Jg n lv m j)))/\(∀i,i<j->Q9 (mC (Jg n lv m j)) (l.getD i 0)=Q30 (Q9 n (i+1)) lv/\mF (Jg n lv m i)=((l.getD i 0:Nat):Int))/\(∀i∈l.take j,i<(mC m).length)/\mX (Jg n lv m j)=mX m
 |0,_,_=>⟨h,rfl,λ_ h=>h,λi B=>absurd B (Nat.not_lt_zero _),λi B=>(by simp at B),rfl⟩
 |j+1,hj,hn'=>by
  obtain⟨M,O,S,T,U,V⟩:=Qtq K (lv:=lv) h j (by omega) (by omega);obtain⟨W,E⟩:=Q98 (show j<l.length by omega);rw[W]at M;have X:=Qex K (show 1<=j+1 by omega) hj;obtain⟨⟨f1,P,c,F⟩,g⟩:=M.new1 (Q30 (Q9 n (j+1)) lv) X (λw G=>by have G:w∈Ch ((aW (Q9 n (j+1))).length-1) ((0:Int),(0:Int)):=G;rw[(List.mem_replicate.1 G).2]);have Y:=Jm.nodup h.free;refine⟨?_, ?_, ?_, ?_, ?_, ?_⟩
  ·show J [] (Qi _ _) _ _ _
   refine g.permc (λv=> ?_) (λ_=>rfl);rw[E,Qij];simp only[List.count_append,List.count_cons,List.count_nil];omega
  ·show(mC (Qi _ _)).length=_
   rw[F,Bl,O]
  ·intro C a
   show CO _ (mC (Qi _ _));rw[F,E];refine((S C a).mono (λi B=> ?_)).set (.inl (by simp));rcases At0.1 B with B|B
   ·simp[B]
   simp[B]
  ·intro i B
   show Q9 (mC (Qi _ _)) _=_/\_;rw[F,Z2];by_cases e:i=j
   ·subst e
    exact⟨by rw[if_pos ⟨rfl,P⟩],f1⟩
   rw[if_neg (λh=>Q4x Y (by omega) (by omega) (λb=>e b.symm) h.1)];exact T i (by omega)
  ·intro i B
   rw[E]at B;rcases At0.1 B with B|B
   ·exact U i B
   rw[Bb.1 B,<-O];exact P
  exact V
def J.name{m l L B b}(h:J [b] m l L B)(K:b<(mC m))(E:Y9 (aK (Q9 (mC m) b))=Bn):J [] m l (((1:Int),(b:Int))::L) B:=by
 have G:∀j,nU (mC m) (((1:Int),(b:Int))::L) B j=nU (mC m) L B j+if b=j then 1 else 0:=λj=>by grind[nU,Q8b]
 refine⟨h.free,h.cover,h.empty,h.words,λw C=> ?_,h.reds,λj F=>⟨λH=>(by cases H),λ_=> ?_⟩⟩
 ·rcases Aq.1 C with rfl|C
  ·unfold Zc
   simp only[Q7,Bq,Bi,Ew,beq_iff_eq,Qj];grind
  exact h.loose w C
 rw[G];by_cases e:b=j
 ·subst e
  rw[if_pos rfl,(h.uses b F).1 (by simp),Q16];exact⟨λ_=>rfl,λe=>by rw[e]at E;exact absurd E (by decide)⟩
 rw[if_neg e];exact(h.uses j F).2 (by simp;exact λh=>e h.symm)
def Qn0{A1:List Nat}{n:Qy0}(h:A1.length=n):Qef A1=(Qfh n).map (Qyh A1):=by
 unfold Qef Qfh Qyh;rw[List.map_map,<-h];have e:=(Q7c A1 0).symm;grind[List.map_congr_left,Qxh,Bq]
theorem Qrw{L G}{n:Qy0}(B:Yd n=Bn){lv}(o:∀i,1<=i->i<n.length->Zf (aK (Q9 n i))=Bn->0<=aL (Q9 n i)+lv/\aL (Q9 n i)+lv<=8){m l}{b:Nat}(h:J [] m l (((1:Int),(b:Int))::L) G)(W:Y9 (aK (Q9 (mC m) b))=Bn)(q:b<(mC m))(r:CO [] (mC m))(hl:n.length-1+(Zg n).length<=l):
  ∃l' Y,J [] (Q2e n lv m b) l' L (Y++G)/\mX (Q2e n lv m b)=mX m++Y/\CO [] (mC (Q2e n lv m b)):=by
 have A5:=(Q47 B).1;have s:=h.nonfree (i:=b) (λe=>by rw[e]at W;exact absurd W (by decide));obtain⟨t,u,v,X,x,y⟩:=Qtq B (lv:=lv) h (n.length-1) (by omega) (by omega);have K:Qy8 n (b::l.take (n.length-1)) (Jg n lv m (n.length-1)):=⟨B,Ar.2 ⟨λC=>s (List.mem_of_mem_take C),List.Nodup.sublist (List.take_sublist _ _) (Jm.nodup h.free)⟩,by rw[Br,Cf];omega,λi E=>by
  rw[u];rcases Aq.1 E with rfl|E
  ·exact q
  exact x i E⟩
 have z:(Qxs n lv m (n.length-1)).set 0 (b:Int)=Qxh (b::l.take (n.length-1)):=by
  apply List.ext_getElem
  ·rw[Bl,Q7r];unfold Qxh;rw[De,K.len];omega
  intro i M a;have c:=Qk8 (b::l.take (n.length-1)) i;rw[Ab,Ad a]at c;rw[show(Qxh (b::l.take (n.length-1)))[i]=_ from c];rw[Bl,Q7r]at M;match i,M with
  |0,_=>rw[List.getElem_set_self];rfl
  |i+1,M=>rw[List.getElem_set_ne (by omega)];have:=Qj5 n lv m (j:=n.length-1) (i:=i) (by omega);rw[Ab,Ad (by rw[Q7r];omega)]at this;rw[show(Qxs n lv m (n.length-1))[i+1]=_ from this,(X i (by omega)).2,List.getD_cons_succ];rw[Ab,Ab,Cm,if_pos (by omega)]
 have A0:(Qef (l.take (n.length-1))++((1:Int),(b:Int))::L).Perm (((Q0q n).map (Qe n)).map (Qyh (b::l.take (n.length-1)))++((Q4s n).map (Qyh (b::l.take (n.length-1)))++((Q3r n).map (Qyh (b::l.take (n.length-1)))++L))):=by refine List.perm_middle.trans ?_;have e:=(Qn0 (A1:=b::l.take (n.length-1)) K.len);have p:=(Qmi B).map (Qyh (b::l.take (n.length-1)));rw[<-e]at p;rw[Ep,Ep]at p;have d:=p.append_right L;simp only[Co]at d;exact d
 have A2:EX n lv (b::l.take (n.length-1)) (Jg n lv m (n.length-1)) (Q2g n++Q0q n) (Jg n lv m (n.length-1)) (l.drop (n.length-1)) (((Q0q n).map (Qe n)).map (Qyh (b::l.take (n.length-1)))++((Q4s n).map (Qyh (b::l.take (n.length-1)))++((Q3r n).map (Qyh (b::l.take (n.length-1)))++L))) G:=by
  refine⟨t.perm A0 (List.Perm.refl _),λi M a=> ?_,rfl, ?_,rfl⟩
  ·obtain⟨k,rfl⟩:∃k,i=k+1:=⟨i-1,by omega⟩
   refine⟨Ch ((aW (Q9 n (k+1))).length-1) (0,0), ?_,by simp,λk' H=>⟨λ_=> ?_,λA3=>absurd ((Qfx B _).2 ⟨Yn.2 ⟨⟨by simp;omega,by simp;omega⟩,by simp only;omega, ?_⟩,by simp only;omega⟩) A3⟩⟩
   ·rw[List.getD_cons_succ]
    have:(l.take (n.length-1)).getD k 0=l.getD k 0:=by rw[Ab,Ab,Cm,if_pos (by omega)]
    rw[this,(X k (by omega)).1];rfl
   ·rw[Ab,Ad H,List.getElem_replicate];rfl
   rw[Eh]at H;show((k'+1:Nat):Int)<((aW (Q9 n (((k+1:Nat):Int)).toNat)):Int);rw[Bq];omega
  have:=v [] r;rw[Cl]at this;exact this
 have f:=Qmh B;obtain⟨P,A4⟩:=Qhn K (Zg n) _ _ A2 f (λw S=>by have C:∀p,p∈ [w.1,w.2]->p∈Qk n/\0<p.2:=λp T=>(Qfx B p).1 (Ag _ (Cz.2 ⟨w,S,T⟩));exact⟨C _ (by simp),C _ (by simp)⟩) (by rw[List.length_drop];omega);have O:=Qgh K (Q0q n) _ A4 (Ba.1 f).2.1 (λp T=>(Qfx B p).1 (Af _ T));have U:CO [] (mC ((Q0q n).foldl (Q5s n (Qxh (b::l.take (n.length-1)))) ((Zg n).foldl (Q4l (Qxh (b::l.take (n.length-1)))) (Jg n lv m (n.length-1))))):=λj hj _=>by
  by_cases C:j∈(b::l.take (n.length-1)).drop 1
  ·obtain⟨i,E,e⟩:=Av.1 C
   rw[List.drop_succ_cons,List.drop_zero]at E;have A6:i<n.length-1:=by rw[Cf]at E;omega
   obtain⟨ws,g,g2,g3⟩:=O.fil (i+1) (by omega) (by omega);have ej:(b::l.take (n.length-1)).getD (i+1) 0=j:=by rw[List.getD_cons_succ,Ab,Ad E];exact e
   rw[ej]at g;rw[g];refine⟨Qsz ((Yl B).2.1 _ (by omega)) (Qex B (by omega) (by omega)) (o _ (by omega) (by omega)) g2,λw S=> ?_⟩;obtain⟨k,H,e⟩:=Av.1 (show w∈ws from S);have:=(g3 k H).2 (by simp);rw[Ab,Ad H]at this;rw[<-e];exact this
  exact O.co j hj C
 obtain⟨Y,F,y2,y3⟩:=Qe5 (A1:=b::l.take (n.length-1)) (Y5 n) _ _ O.j;have V:=y2;rw[O.mx,y]at V;unfold Q2e;simp only[];rw[z]
 show∃l' Y,J [] (if(Qe n (0,0)).2==0 then Ya ((Y5 n).foldl (λm p=>Ya m ((Qxh (b::l.take (n.length-1))).getD p.1.toNat 0) ((Qxh (b::l.take (n.length-1))).getD p.2.toNat 0)) ((Q0q n).foldl (Q5s n (Qxh (b::l.take (n.length-1)))) ((Zg n).foldl (Q4l (Qxh (b::l.take (n.length-1)))) (Jg n lv m (n.length-1))))) b ((Qxh (b::l.take (n.length-1))).getD (Qe n (0,0)).1.toNat 0)else((Y5 n).foldl (λm p=>Ya m ((Qxh (b::l.take (n.length-1))).getD p.1.toNat 0) ((Qxh (b::l.take (n.length-1))).getD p.2.toNat 0)) ((Q0q n).foldl (Q5s n (Qxh (b::l.take (n.length-1)))) ((Zg n).foldl (Q4l (Qxh (b::l.take (n.length-1)))) (Jg n lv m (n.length-1)))))) l' L (Y++G)/\
  mX (if(Qe n (0,0)).2==0 then Ya ((Y5 n).foldl (λm p=>Ya m ((Qxh (b::l.take (n.length-1))).getD p.1.toNat 0) ((Qxh (b::l.take (n.length-1))).getD p.2.toNat 0)) ((Q0q n).foldl (Q5s n (Qxh (b::l.take (n.length-1)))) ((Zg n).foldl (Q4l (Qxh (b::l.take (n.length-1)))) (Jg n lv m (n.length-1))))) b ((Qxh (b::l.take (n.length-1))).getD (Qe n (0,0)).1.toNat 0)else((Y5 n).foldl (λm p=>Ya m ((Qxh (b::l.take (n.length-1))).getD p.1.toNat 0) ((Qxh (b::l.take (n.length-1))).getD p.2.toNat 0)) ((Q0q n).foldl (Q5s n (Qxh (b::l.take (n.length-1)))) ((Zg n).foldl (Q4l (Qxh (b::l.take (n.length-1)))) (Jg n lv m (n.length-1))))))=mX m++Y/\
  CO [] (mC (if(Qe n (0,0)).2==0 then Ya ((Y5 n).foldl (λm p=>Ya m ((Qxh (b::l.take (n.length-1))).getD p.1.toNat 0) ((Qxh (b::l.take (n.length-1))).getD p.2.toNat 0)) ((Q0q n).foldl (Q5s n (Qxh (b::l.take (n.length-1)))) ((Zg n).foldl (Q4l (Qxh (b::l.take (n.length-1)))) (Jg n lv m (n.length-1))))) b ((Qxh (b::l.take (n.length-1))).getD (Qe n (0,0)).1.toNat 0)else((Y5 n).foldl (λm p=>Ya m ((Qxh (b::l.take (n.length-1))).getD p.1.toNat 0) ((Qxh (b::l.take (n.length-1))).getD p.2.toNat 0)) ((Q0q n).foldl (Q5s n (Qxh (b::l.take (n.length-1)))) ((Zg n).foldl (Q4l (Qxh (b::l.take (n.length-1)))) (Jg n lv m (n.length-1)))))))
 generalize (Y5 n).foldl (λm p=>Ya m ((Qxh (b::l.take (n.length-1))).getD p.1.toNat 0) ((Qxh (b::l.take (n.length-1))).getD p.2.toNat 0)) ((Q0q n).foldl (Q5s n (Qxh (b::l.take (n.length-1)))) ((Zg n).foldl (Q4l (Qxh (b::l.take (n.length-1)))) (Jg n lv m (n.length-1))))=mm at *
 rw[<-y3]at U;unfold Q3r at F;by_cases e:((Qe n (0,0)).2==0)=Bn
 ·rw[if_pos e]at F⊢
  have F:J [] mm P (((1:Int),(b:Int))::((1:Int),(Qxh (b::l.take (n.length-1))).getD (Qe n (0,0)).1.toNat 0)::L) (Y++G):=F;refine⟨P,Y++ [(min (b:Int) ((Qxh (b::l.take (n.length-1))).getD (Qe n (0,0)).1.toNat 0),max (b:Int) ((Qxh (b::l.take (n.length-1))).getD (Qe n (0,0)).1.toNat 0))],(F.join.redexM _ _).permc (λ_=>rfl) (λw=> ?_), ?_,U⟩
  ·simp only[Co,List.count_append,List.count_cons,List.count_nil];omega
  show mX mm++ [_]=_;rw[V,Co]
 rw[if_neg e]at F⊢;exact⟨P,Y,F,V,U⟩
def Qc8:∀(n:List Qb) (z:Int),z<=n.foldl (λl x=>max l (aL x)) z/\∀x∈n,aL x<=n.foldl (λl x=>max l (aL x)) z
 | [],z=>⟨Int.le_refl _,λx B=>by cases B⟩
 |a::n,z=>by
  obtain⟨E,C⟩:=Qc8 n (max z (aL a));rw[Cb];refine⟨by omega,λx B=> ?_⟩;rcases Aq.1 B with rfl|B
  ·omega
  exact C x B
theorem J.swap{m l L C a b}(h:J [a,b] m l L C):J [b,a] m l L C:=
 ⟨h.free,h.cover,h.empty,h.words,h.loose,h.reds,λi E=>⟨λB=>(h.uses i E).1 (by simp at B⊢;omega),λB=>(h.uses i E).2 (by simp at B⊢;omega)⟩⟩
def Qot{cs p}(h:Zn cs p=Bn):∃i j:Nat,Zi cs p=((i:Int),(j:Int))/\(p=((i:Int),(j:Int))\/p=((j:Int),(i:Int)))/\i≠j/\i<cs/\j<cs/\Y9 (aK (Q9 cs i))=Bn/\Y9 (aK (Q9 cs j))=Bn:=by
 obtain⟨⟨B,C,E⟩,F,G⟩:=J0 h;grind[Q7,Q3j]
def J.both{m l L B p}{i j:Nat}(h:J [] m l L (p::B))(E:CO [] (mC m))(a:p=((i:Int),(j:Int))\/p=((j:Int),(i:Int)))(F:i≠j)(G:i<(mC m))(H:j<(mC m))(V:Y9 (aK (Q9 (mC m) i))=Bn)(W:Y9 (aK (Q9 (mC m) j))=Bn):
  J [j] (Qd m i) (i::l) (aW (Q9 (mC m) i)++L) B/\CO [] (mC (Qd m i))/\(Q9 (mC (Qd m i)) j=Q9 (mC m) j/\(mC (Qd m i)).length=(mC m))/\J [] (Qd (Qd m i) j) (j::i::l) (aW (Q9 (mC m) j)++(aW (Q9 (mC m) i)++L)) B/\CO [] (mC (Qd (Qd m i) j)):=by
 have X:J [i,j] m l L B:=by grind[J.pop,J.swap]
 have K:∀k,Y9 k=Bn->k≠0:=λk M e=>by rw[e]at M;exact absurd M (by decide)
 obtain⟨-,O,P⟩:=X.kill G (by simpa using F) (K _ V) (E i G (by simp)).2;have C:Q9 (mC (Qd m i)) j=Q9 (mC m) j:=by rw[O,Z2,if_neg (λh=>F h.1)]
 have S:CO [] (mC (Qd m i)):=by rw[O];exact E.set (.inr (Q6w))
 have T:(mC (Qd m i)).length=(mC m):=Za;obtain⟨-,Y,U⟩:=P.kill (by rw[T];exact H) (by simp) (by rw[C];exact K _ W) (by rw[C];exact(E j H (by simp)).2);rw[C]at U;exact⟨P,S,⟨C,T⟩,U,by rw[Y];exact S.set (.inr (Q6w))⟩
theorem Qwj{bk:List Qy0}{m l L W p}(hb:∀n∈bk,Yd n=Bn)(h:J [] m l L (p::W))(hc:CO [] (mC m))(O:mX m=[])(h0:(Zt bk (mC m) p).2=0)(d:(Zt bk (mC m) p).1<=Qx (mC m)+Zk (Qu (mC m) p)):
  ∃l',J [] (Yz bk m (Qu (mC m) p) (Zi (mC m) p).1 (Zi (mC m) p).2).1 l' (Qy1 (Yz bk m (Qu (mC m) p) (Zi (mC m) p).1 (Zi (mC m) p).2).2++L) (mX (Yz bk m (Qu (mC m) p) (Zi (mC m) p).1 (Zi (mC m) p).2).1++W)/\
   CO [] (mC (Yz bk m (Qu (mC m) p) (Zi (mC m) p).1 (Zi (mC m) p).2).1)/\(1<=Qu (mC m) p/\Qu (mC m) p<=7):=by
 have G:∀i,i<(mC m).length->Ze (Q9 (mC m) i)=Bn:=λi P=>(hc i P (by simp)).1;have g:=h.reds p Ae;rw[<-h.len]at d;obtain⟨A5,A0⟩:=Qfl bk G g h0 d;obtain⟨i,j,o,hp,A6,P,H,ki,K⟩:=Qot g;have q:xM (mC m) p=Q9 (mC m) i:=by unfold xM;rw[o];rfl
 have ey:yM (mC m) p=Q9 (mC m) j:=by unfold yM;rw[o];rfl
 obtain⟨X,c1,⟨r,l1⟩,M,S⟩:=h.both hc hp A6 P H ki K;have A7:mX (Qd m i)=[]:=O;have A1:mX (Qd (Qd m i) j)=[]:=O;have s:=Q2t (G i P) ki;rcases Q5n G g with h8|⟨-,hr,hv⟩
 ·omega
 rw[q,ey]at hr hv;have hk:=Q4t (ka:=aK (Q9 (mC m) i)) (la:=aL (Q9 (mC m) i)) (kb:=aK (Q9 (mC m) j)) (lb:=aL (Q9 (mC m) j)) (by rw[hr];omega);rw[hr]at hk;rw[o];simp only;rw[q,ey]at A0;have a1:Q7 (mC m) (i:Int)=Q9 (mC m) i:=rfl;have a2:Q7 (mC m) (j:Int)=Q9 (mC m) j:=rfl;suffices∃l',J [] (Yz bk m (Qu (mC m) p) i j).1 l' (Qy1 (Yz bk m (Qu (mC m) p) i j).2++L) (mX (Yz bk m (Qu (mC m) p) i j).1++W)/\CO [] (mC (Yz bk m (Qu (mC m) p) i j).1)by obtain⟨l',q1,t⟩:=this;exact⟨l',q1,t,A5⟩
 by_cases a:Qu (mC m) p=7
 ·have kx:aK (Q9 (mC m) i)=12:=by omega
  have u:=Do (s.2.2.1 (by omega));have B:=h0;have C:=d;unfold Zt at B C;rw[a]at B C;rw[if_neg (by decide),if_neg (by decide),if_neg (by decide),if_neg (by decide),if_neg (by decide),if_pos (by decide),q]at B C;by_cases A2:(bk:Int)<=aV (Q9 (mC m) i)
  ·rw[if_pos A2]at B;simp at B
  rw[if_neg A2]at B C;by_cases v:8<V3 (Yc bk (aV (Q9 (mC m) i)))+aL (Q9 (mC m) i)
  ·rw[if_pos v]at B;simp at B
  rw[if_neg v]at C;have c:Yd (Yc bk (aV (Q9 (mC m) i)))=Bn:=by unfold Yc;rw[Ab,Ad (by omega)];exact hb _ (As _)
  have A8:Zk 7=1:=rfl;rw[A8]at C;have AD:=(Q47 c).1;rw[u,Bs]at X;have A9:=X.name (by rw[l1];exact H) (by rw[r];exact K);obtain⟨l',Y,y1,y2,y3⟩:=Qrw c (lv:=aL (Q9 (mC m) i)) (λk AE A3 AA=>by have:=Q7i ((Yl c).2.1 k A3) AA;have hh:=(Qc8 (Yc bk (aV (Q9 (mC m) i))) 0).2 (Q9 (Yc bk (aV (Q9 (mC m) i))) k) (by rw[Qy A3];exact As _);unfold V3 at v;omega) A9 (by rw[r];exact K) (by rw[l1];exact H) c1 (by simp only[Br]at C⊢;omega)
  have he:V2 bk (Qd m i) (Q9 (mC m) i) j=Q2e (Yc bk (aV (Q9 (mC m) i))) (aL (Q9 (mC m) i)) (Qd m i) j:=
   (Qdf c (b:=(j:Int)) X.free (by simp only[Br]at C⊢;omega) (by omega) (by rw[Bq];exact X.nonfree (by rw[r];exact λe=>by rw[e]at K;exact absurd K (by decide))) bk (Q9 (mC m) i) rfl).symm
  have AB:Yz bk m (Qu (mC m) p) i j=(V2 bk (Qd m i) (Q9 (mC m) i) j,[]):=by unfold Yz;rw[a];simp only[a1];rfl
  rw[AB,he];refine⟨l', ?_,y3⟩;rw[y2,A7];exact y1
 have AC:=A0 a;obtain⟨q1,t,q3,q4,q5⟩:=AC;rw[Qc7 bk m _ _ _ a,a1,a2];by_cases A4:Qu (mC m) p=1\/Qu (mC m) p=2
 ·obtain⟨w1,w2⟩:=q1 A4
  rw[if_pos (by rcases A4 with e|e<;>rw[e]<;>rfl)];refine⟨j::i::l, ?_,S⟩;rw[A1];refine M.permc (λw=> ?_) (λ_=>rfl);obtain⟨E,F,e1⟩:∃E F,aW (Q9 (mC m) i)=[E,F]:=by
   match aW (Q9 (mC m) i),w1 with
   | [E,F],_=>exact⟨E,F,rfl⟩
  obtain⟨y0,y1,e2⟩:∃E F,aW (Q9 (mC m) j)=[E,F]:=by
   match aW (Q9 (mC m) j),w2 with
   | [E,F],_=>exact⟨E,F,rfl⟩
  rw[e1,e2];simp only[Qy1,List.getD_cons_zero,List.getD_cons_succ,Cr,List.flatMap_nil,Bw,Bs,List.count_cons];omega
 rw[if_neg (by simp;omega)];by_cases y:Qu (mC m) p=3
 ·rw[if_pos (by simpa using y)]
  obtain⟨w1,w2⟩:=t y;obtain⟨l',T,U⟩:=Qww (L:=L) s.2.2.2.2.2.2.2.2.2.2 w1 (G j H) K M S (by simp only[Br];omega);have V:mX (Qa4 (Qd (Qd m i) j) (Q9 (mC m) i) (Q9 (mC m) j)).1=[]:=by unfold Qa4;exact(Qoo (f:=Zq _ _ _) (λ_ _=>rfl) _ _).trans O
  exact⟨l',by rw[V];exact T,U⟩
 rw[if_neg (by simpa using y)];by_cases z:Qu (mC m) p=4
 ·rw[if_pos (by simpa using z)]
  have u:=Do (s.2.2.1 (by omega));rw[u,Bs]at M;obtain⟨l',T,U⟩:=Qwh (L:=L) (R1:=W) (aW (Q9 (mC m) j)) (j::i::l) (Qd (Qd m i) j) [] M S (by have:=q3 z;simp only[Br];omega);have V:mX ((aW (Q9 (mC m) j)).foldl Ym (Qd (Qd m i) j,[])).1=[]:=(Qoo (f:=Ym) (λ_ _=>rfl) _ _).trans O;exact⟨l',by rw[V];exact T,U⟩
 rw[if_neg (by simpa using z)];by_cases h5:Qu (mC m) p=5
 ·rw[if_pos (by simpa using h5)]
  obtain⟨l',T,U⟩:=Qw5 (L:=L) (G i P) (by omega) (G j H) (by omega) M S (by simp);have V:mX (Q40 (Qd (Qd m i) j) (Q9 (mC m) i) (Q9 (mC m) j)).1=[]:=O;exact⟨l',by rw[V];exact T,U⟩
 rw[if_neg (by simpa using h5)];have h6:Qu (mC m) p=6:=by omega
 rw[if_pos (by simpa using h6)];exact Qrp (x:=Q9 (mC m) i) (G j H) (by omega) (λe=>(q5 h6).2.2.2.1 e) M S (by have:=(q5 h6).1;simp only[Br];omega) A1
def Qr7{α:Type}(f:α->Nat)(c:Nat):∀(n:Nat) (ws:List α),(∀w∈ws,f w<n)->(∀i,i<n->ws.countP (λw=>f w==i)<=c)->ws<=n * c
 |0,[],_,_=>by simp
 |0,w::ws,h,_=>absurd (h w Ae) (by omega)
 |n+1,ws,h,hc=>by
  have e:ws=ws.countP (λw=>f w==n)+(ws.filter λw=> !(f w==n)).length:=by
   induction ws with
   |nil=>rfl
   |cons a ws C=>
    have:=C (λw B=>h w (Aa _ B)) (λi E=>by have:=hc i E;rw[Dd]at this;omega);rw[Dd,List.filter_cons];by_cases e:f a=n
    ·simp[e];omega
    simp[e];omega
  have C:=Qr7 f c n (ws.filter λw=> !(f w==n)) (λw B=>by
   obtain⟨F,G⟩:=Di.1 B;have:=h w F;have:f w≠n:=by simpa using G
   omega) (λi E=>Au (List.Sublist.countP_le List.filter_sublist) (hc i (by omega)))
  have:=hc n (by omega);rw[e,Nat.succ_mul];omega
def Qb0{α:Type}(f)[BEq α][LawfulBEq α]{ws:List Qxb}{k:Nat}(h:k<ws)(y)(a:α):((ws.set k y).flatMap f).count a+(f (ws.getD k Qbj)).count a=(ws.flatMap f).count a+(f y).count a:=by
 induction ws generalizing k with
 |nil=>simp at h
 |cons c ws ih=>
  cases k with
  |zero=>simp[Cr,List.count_append];omega
  |succ k=>grind
def Qj6{ws:List Qxb}{k:Nat}(h:k<ws)(y):((ws.set k y).countP Qz:Int)+(if Qz (ws.getD k Qbj)then 1 else 0)=(ws.countP Qz:Int)+(if Qz y then 1 else 0):=by
 grind
theorem Q4v{α β γ:Type}{g:β->γ}{f:β->α->β}(B:∀s a,g (f s a)=g s):∀(l:List α) (s:β),g (l.foldl f s)=g s
 | [],_=>rfl
 |a::l,s=>by rw[Cb,Q4v B l];exact B s a
theorem Qj1(m:Qyb)(l:Int):∀n,mR (Yy m l n).1=mR m
 |0=>rfl
 |n+1=>Qj1 m l n
theorem Qri(n:Qy0)(l:Int)(m:Qyb):∀j,mR (Jg n l m j)=mR m
 |0=>rfl
 |j+1=>Qri n l m j
def Qvn(bk m){C a b}:mR (Yz bk m C a b).1=mR m:=by
 unfold Yz;simp only;split
 ·unfold V2
  simp only;have B:mR (V8 (V2.netOf' bk (aV (Q7 (mC m) a))) (aL (Q7 (mC m) a)) (1,b) (Qd m a)).1=mR m:=by
   unfold V8;simp only;refine(Q4v (g:=mR) (λs p=> ?_) _ _).trans ?_
   ·rfl
   refine(Q4v (g:=λs:Qyb×Wd=>mR s.1) (λs w=> ?_) _ _).trans ?_
   ·unfold Yj
    simp only;repeat' split
    all_goals rfl
   show mR (Jg _ _ _ _)=_;rw[Qri];rfl
  split
  ·exact B
  exact B
 repeat' split
 ·rfl
 ·unfold Qa4
  simp only;exact Q4v (g:=λs:Qyb×List Qy3=>mR s.1) (f:=Zq _ _ _) (λs p=>rfl) _ _
 ·exact Q4v (g:=λs:Qyb×List Qy3=>mR s.1) (f:=Ym) (λs p=>rfl) _ _
 ·rfl
 ·unfold Jx
  simp only;split
  ·rw[Qj1];rfl
  show mR (List.foldl _ _ _)=_;rw[Q4v (g:=mR) (f:=Zr _ _ _) (λs p=>rfl),Qj1];rfl
 rfl
theorem Ql7{ws:List Wd}(h:∀w∈ws,w.1≠0)(i):ws.countP (Qxf i)=ws.countP λw=>w.2==(i:Int):=by grind[List.countP_congr,Qxf]
theorem Qp5{m held rs}(h:∀w∈Z8 m++held,w.1≠0)(i):nU (mC m) (mR m::held) rs i=Jk (Z8 m++held) rs i:=by
 unfold nU Jk Qxj Ql6;rw[Ql7 (λw B=>h w (Ag _ (Aa _ B))),Ql7 (ws:=mR m::held) (λw B=>by
  rcases Aq.1 B with rfl|B
  ·exact h _ (Ag _ Ae)
  exact h _ (Af _ B))]
 unfold Z8;grind
theorem Qru.j{m held rs}(h:Qru m held rs):∃l,J [] m l (mR m::held) rs/\CO [] (mC m):=by
 obtain⟨O,P,G,E,H,S,F⟩:=h;have K:∀w∈Z8 m++held,w.1≠0:=λw B=>(Q3v (E w B)).1;refine⟨V9 (mC m) (Qx (mC m)) (mF m),⟨Jm.of_chain F,λi C L=>Qgg F i C L,λi C=> ?_,λw B=> .inr (E w (Ag _ (Aa _ B))),λw B=> ?_,H,λi C=>⟨λh=>(by cases h),λ_=> ?_⟩⟩,λi C _=>⟨G i C,λw B=>K w (Ag _ (Aa _ (Qbp C B)))⟩⟩
 ·obtain⟨M,T⟩:=Qbl F C
  have:=G i M;unfold Ze at this;simp_all
 ·rcases Aq.1 B with rfl|B
  ·exact E _ (Ag _ Ae)
  grind
 grind[Qp5]
theorem J.held_len{m l L C}(h:J [] m l L C):L.length<=(mC m) * 2/\C.length<=(mC m):=by
 have H:∀i,i<(mC m).length->L.countP (Qxf i)<=2/\Ql6 C i<=2/\C.countP (λp=>p.1==(i:Int))<=1:=λi E=>by
  have P:=(h.uses i E).2 (by simp);rw[Q16]at P;by_cases ka:Y9 (aK (Q9 (mC m) i))=Bn
  ·grind[nU,Ql6]
  have K:∀p∈C,p.1≠(i:Int)/\p.2≠(i:Int):=λp B=>by
   have M:=J0 (h.reds p B);constructor<;>intro e
   ·have:=M.2.1
    rw[e]at this;exact ka this
   have:=M.2.2;rw[e]at this;exact ka this
  have T:C.countP (λp=>p.1==(i:Int))=0:=List.countP_eq_zero.2 λp B=>by simpa using(K p B).1
  have U:C.countP (λp=>p.2==(i:Int))=0:=List.countP_eq_zero.2 λp B=>by simpa using(K p B).2
  by_cases S:aK (Q9 (mC m) i)=13
  ·grind[nU]
  have V:L.countP (Qxf i)=0:=List.countP_eq_zero.2 λw F G=>by
   have O:=Jo (h.loose w F);unfold Qxf at G;simp only[Bi,beq_iff_eq]at G;rw[G.2]at O;rcases O.2 with h|h
   ·exact ka h.2
   exact S h.2
  unfold Ql6;omega
 constructor
 ·refine Qr7 (λw:Wd=>w.2.toNat) 2 _ L (λw F=>(Q3v (h.loose w F)).2.2) (λi E=> ?_)
  refine Au (Nat.le_of_eq (List.countP_congr λw F=> ?_)) (H i E).1;have:=Q3v (h.loose w F);unfold Qxf;grind
 have:=Qr7 (λw:Wd=>w.1.toNat) 1 (mC m) C (λp B=>by have:=(J0 (h.reds p B)).1;omega) (λi E=>by refine Au (Nat.le_of_eq (List.countP_congr λp B=> ?_)) (H i E).2.2;have:=(J0 (h.reds p B)).1;simp only[beq_iff_eq];omega);omega
theorem J.memF{m l held rs}(h:J [] m l (mR m::held) rs)(E:CO [] (mC m))(F:1<=(mC m).length/\(mC m).length<=1500):Qru m held rs:=by
 have B:∀w∈Z8 m++held,Zc (mC m) w=Bn:=λw B=>by
  rcases At0.1 B with B|B
  ·rcases Aq.1 B with rfl|B
   ·exact h.loose _ Ae
   refine(h.words w B).resolve_left ?_;obtain⟨c,G,K⟩:=Cz.1 B;obtain⟨i,C,rfl⟩:=Av.1 G;have:=(E i C (by simp)).2 w;grind[Qy]
  exact h.loose _ (Aa _ B)
 refine⟨F,h.held_len.2,λi C=>(E i C (by simp)).1,B,h.reds,λi C=> ?_,h.chain⟩;rw[<-Qp5 (λw H=>(Q3v (B w H)).1)];exact(h.uses i C).2 (by simp)
def Q5f(n:Nat)(w:Qxb):Prop:=(1<=wP w/\wP w<=4)/\(0<=wV w/\wV w<n)/\Vj (wC w)=Bn/\(wP w=1\/(wX w=[]/\wL w=[]))
def Q8q{n w}:Y4 n w=Bn↔Q5f n w/\(wL w).length<=1500:=by
 unfold Y4 Q5f;simp only[Bi,Ew,Qj,decide_eq_true_eq,beq_iff_eq,List.length_eq_zero_iff];grind
theorem Qf3(ws):Jd ws=ws.flatMap λw=>Qy1 (wL w):=rfl
theorem Qva(B):(Qy1 B).length=2 * B.length:=by
 induction B with
 |nil=>rfl
 |cons a B ih=>show(a.1::a.2::Qy1 B).length=_;simp only[Br,ih];omega
def Q0y.mk'{p l}(E:1<=(pW p).length/\(pW p).length<=4)(F:mX (pM p)=[])(G:∀k,k<(pW p).length->Q5f (pW p) (Q3 p k))(H:(((pW p).countP Qz:Nat):Int)=pA p)(B:J [] (pM p) l (mR (pM p)::Jd (pW p)) (Qr (pW p)))(K:CO [] (mC (pM p)))(L:1<=(mC (pM p)).length/\(mC (pM p)).length<=1500):Q0y p:=by
 refine⟨E,F,λk C=>Q8q.2 ⟨G k C, ?_⟩,H,B.memF K L⟩;have O:=B.held_len.1;have M:(Qy1 (wL (Q3 p k))).length<=(Jd (pW p)):=by rw[Qf3,List.length_flatMap,Q9u C];exact Q9w _ (Dx.2 ⟨(pW p)[k],As _,rfl⟩)
 rw[Qva]at M;grind
def Qqf{c}(h:Ze c=Bn)(B:aK c=13):(aW c).length<2/\∀b,Ze (13,aL c,aV c,aD c,[b])=Bn:=by
 have e:Ze c=Qor (aK c) (aL c) (aV c) (aD c) (aW c):=rfl;rw[e,B]at h;unfold Qor at h;rw[if_neg (by decide),if_pos (by decide)]at h;simp only[Bi,decide_eq_true_eq]at h;refine⟨by omega,λb=> ?_⟩;show Qor 13 (aL c) (aV c) (aD c) 1=Bn;unfold Qor;grind
def Qsj(B):(∀x:Wd,[B.1,B.2].count x=[(Q2f B).1,(Q2f B).2].count x)/\((Q2f B).1.1≠2->(Q2f B).2.1≠2):=by
 unfold Q2f;grind
def Qwk{m l L K w}(h:J [] m l (Qy1 (wL w)++L) K)(H:CO [] (mC m))(f:0<(wL w).length):∃l' Y,wX (Ja m w).2=wX w++Y/\J [] (Ja m w).1 l' (Qy1 (wL (Ja m w).2)++L) (Y++K)/\CO [] (mC (Ja m w).1)/\
  (wP (Ja m w).2=wP w/\wV (Ja m w).2=wV w/\wC (Ja m w).2=wC w)/\mX (Ja m w).1=mX m/\mR (Ja m w).1=mR m/\(mC (Ja m w).1).length=(mC m):=by
 obtain⟨B,C,e⟩:∃B C,wL w=B::C:=by
  match wL w,f with
  |B::C,_=>exact⟨B,C,rfl⟩
 have g:Q32 w=B:=by unfold Q32;rw[e];rfl
 obtain⟨j,W⟩:=Qsj B;have k:(wL w).drop 1=C:=by rw[e];rfl
 have E:J [] m l ((Q2f B).1::(Q2f B).2::(Qy1 C++L)) K:=h.permc (λx=>by have:=j x;rw[e];show(B.1::B.2::(Qy1 C++L)).count x=_;simp only[List.count_cons,List.count_nil]at this⊢;omega) (λ_=>rfl);unfold Ja;rw[g,k];simp only[];generalize Q2f B=ab at *
 obtain⟨a,b⟩:=ab;simp only at E W⊢;have n:=E.loose a Ae;have X:=E.loose b (Aa _ Ae);have U:=Jo n;have o:=Jo X;by_cases ka:a.1=2
 ·obtain⟨i,rfl⟩:∃i:Nat,a=((2:Int),(i:Int)):=⟨a.2.toNat,Dz ka (by simp only;omega)⟩
  have M:i<(mC m):=by have:=U.1.2;simp only at this;omega
  have F:aK (Q9 (mC m) i)=13:=by
   rcases U.2 with h|h
   ·simp at h
   exact h.2
  have p:Q2n m (i:Int)=aW (Q9 (mC m) i):=rfl;obtain⟨v1,q⟩:=Qqf (H i M (by simp)).1 F;have c:=(H i M (by simp)).2;by_cases O:((2:Int),(i:Int))=b
  ·subst O
   have V:J [] m l (Ch 2 ((2:Int),(i:Int))++(Qy1 C++L)) K:=E;have P:(aW (Q9 (mC m) i)).length=0:=by have:=(Q16.1 ((E.uses i M).2 (by simp))).2 F;unfold nU at this;rw[Dd,Dd,Q8b (by decide)]at this;simp only[decide_true,if_true]at this;omega
   obtain⟨-,S,G⟩:=(V.drop F (by omega)).kill M (by simp) (by rw[F];decide) c;rw[if_neg (by simp),if_pos (by simp)];refine⟨i::l,[],by simp[wX], ?_,by rw[S];exact H.set (.inr (Q6w)),⟨rfl,rfl,rfl⟩,rfl,rfl,Za⟩;rw[Do P]at G;exact G
  rw[if_pos (by simp[O]),p];by_cases P:0<(aW (Q9 (mC m) i)).length
  ·rw[if_pos P]
   obtain⟨T,d⟩:∃T,aW (Q9 (mC m) i)=[T]:=by
    match aW (Q9 (mC m) i),P,v1 with
    | [T],_,_=>exact⟨T,rfl⟩
    |_::_::_,_,h=>simp at h;omega
   have V:=E;obtain⟨-,S,G⟩:=(V.drop F (by rw[d];rfl)).kill M (by simp) (by rw[F];decide) c;refine⟨i::l,[],by simp[wX], ?_,by rw[S];exact H.set (.inr (Q6w)),⟨rfl,rfl,rfl⟩,rfl,rfl,Za⟩;rw[d]at G⊢;exact G
  rw[if_neg P];have r:aW (Q9 (mC m) i)=[]:=Do (by omega);obtain⟨S,G⟩:=E.bind F r (λe=>O e.symm);refine⟨l,[],by simp[wX],G, ?_,⟨rfl,rfl,rfl⟩,rfl,rfl,Q01 _ _⟩;show CO [] (mC (Qa m i [b]));rw[S];refine H.set (.inr ⟨q b,λw s=> ?_⟩);obtain rfl:w=b:=by simpa[aW]using s
  exact(Q3v X).1
 have kb:=W ka;have t:a.1=1:=by rcases U.2 with h|h;exact h.1;exact absurd h.1 ka
 have u:b.1=1:=by rcases o.2 with h|h;exact h.1;exact absurd h.1 kb
 have O:J [] m l (((1:Int),a.2)::((1:Int),b.2)::(Qy1 C++L)) K:=by have v:a=((1:Int),a.2):=Dz t rfl;have y:b=((1:Int),b.2):=Dz u rfl;rw[<-v,<-y];exact E
 rw[if_neg (by simp[ka]),if_neg (by simp[ka])];exact⟨l,[(min a.2 b.2,max a.2 b.2)],rfl,O.join,H,⟨rfl,rfl,rfl⟩,rfl,rfl,rfl⟩
def Q6r{α:Type}(f:Qxb->List α):∀ {ws:List Qxb} {k:Nat},k<ws->(ws.flatMap f).Perm (f (ws.getD k Qbj)++(ws.eraseIdx k).flatMap f)
 | [],_,h=>absurd h (by simp)
 |c::ws,0,_=>by simp[Cr]
 |c::ws,k+1,h=>by have B:=Q6r f (ws:=ws) (k:=k) (by simpa using h);rw[Cr,List.getD_cons_succ,List.eraseIdx_cons_succ,Cr];refine(B.append_left (f c)).trans ?_;rw[<-Co,<-Co];exact List.Perm.append_right _ List.perm_append_comm
def Qh3{α:Type}(f:Qxb->List α){ws:List Qxb}{k:Nat}(h:k<ws)(y):((ws.set k y).flatMap f).Perm (f y++(ws.eraseIdx k).flatMap f):=by
 have:=Q6r f (ws:=ws.set k y) (k:=k) (by rw[Bl];exact h);grind
def Qfd{ws:List Qxb}{n}(h:∀j,j<ws.length->Q5f n (ws.getD j Qbj))(k){y}(B:Q5f n y):∀j,j<(ws.set k y).length->Q5f n ((ws.set k y).getD j Qbj):=by grind
theorem Q0y.start{p}{k:Nat}(h:Q0y p)(B:k<(pW p)):∃l,J [] (pM p) l (Qy1 (wL (Q3 p k))++(mR (pM p)::Jd ((pW p).eraseIdx k))) (wX (Q3 p k)++Qr ((pW p).eraseIdx k))/\CO [] (mC (pM p)):=by
 obtain⟨l,C,E⟩:=h.2.2.2.2.j;refine⟨l,C.perm ?_ (Q6r wX B),E⟩;exact((Q6r (λw=>Qy1 (wL w)) B).cons _).trans List.perm_middle.symm
def Q0y.one{p}{k:Nat}{B y a l'}(h:Q0y p)(E:k<(pW p))(G:mX B=[])(H:Q5f (pW p) y)(M:(((pW p).countP Qz:Nat):Int)+(if Qz y then 1 else 0)=a+(if Qz (Q3 p k)then 1 else 0))(C:J [] B l' (Qy1 (wL y)++(mR B::Jd ((pW p).eraseIdx k))) (wX y++Qr ((pW p).eraseIdx k)))(K:CO [] (mC B))(L:(mC B).length=(mC (pM p))):Q0y (B,(pW p).set k y,a):=by
 have F:((pW p).set k y).length=(pW p):=Bl ..;refine Q0y.mk' (p:=(B,(pW p).set k y,a)) (l:=l') ?_ G ?_ ?_ ?_ K ?_
 ·show 1<=((pW p).set k y).length/\((pW p).set k y).length<=4
  rw[F];exact h.1
 ·intro j C
  show Q5f ((pW p).set k y) _;rw[F];exact Qfd (λj C=>(Q8q.1 (h.2.2.1 j C)).1) k H j C
 ·have:=Qj6 E y
  show((((pW p).set k y).countP Qz:Nat):Int)=a;grind[Q3]
 ·refine C.perm ?_ (Qh3 wX E y).symm
  exact List.perm_middle.trans ((Qh3 (λw=>Qy1 (wL w)) E y).symm.cons _)
 show 1<=(mC B).length/\(mC B).length<=1500;rw[L];exact h.2.2.2.2.1
def Qq3{n:Nat}(h:1<=n)(a B):0<=Q0r n a B/\Q0r n a B<n:=by
 have C:(n:Int)≠0:=by omega
 have E:=Fz (a+1) C;have F:=Ez (a+1) (show(0:Int)<n by omega);have G:=Fz ((a+1)%n+1) C;have H:=Ez ((a+1)%n+1) (show(0:Int)<n by omega);unfold Q0r;split<;>omega
def Qmp{xs:List Wd}(h:0<xs.length):xs=xs.take (xs.length-1)++ [xs.getD (xs.length-1) (0,0)]:=by
 have e:xs.getD (xs.length-1) (0,0)=xs[xs.length-1]:=by rw[Ab,Ad (by omega)];rfl
 have:=List.take_succ (l:=xs) (i:=xs.length-1);grind
theorem Qm6(p k):Q1g p k=(!(wV (Q3 p k)==(k:Int)) && decide (0<(wX (Q3 p (wV (Q3 p k)).toNat)).length)):=rfl
theorem Qd4{bk:List Qy0}{p}{k:Nat}(hb:∀n∈bk,Yd n=Bn)(h:Q0y p)(K:k<(pW p)):Q0y (Yo bk p k).2:=by
 have hw:=(Q8q.1 (h.2.2.1 k K)).1;have z:=h.2.2.2.1;have i:=h.2.1;have hn:=h.1;obtain⟨l,X,m⟩:=h.start K;obtain⟨w1,w2,L,w4⟩:=hw;have C:∀ {y:Qxb},(Qz y=Bn↔wP y=1\/wP y=3):=λ{y}=>by unfold Qz;simp
 unfold Yo;simp only;by_cases b:0<(wL (Q3 p k)).length
 ·rw[if_pos b]
  obtain⟨l',Y,M,G,k1,⟨E,e3,e4⟩,ex,U,el⟩:=Qwk X m b;have d:=w4.resolve_right λe=>by rw[e.2]at b;simp at b
  refine h.one (l':=l') K (by rw[ex];exact i) ⟨by rw[E];exact w1,by rw[e3];exact w2,by rw[e4];exact L,.inl (by rw[E];exact d)⟩ ?_ ?_ k1 el
  ·have:Qz (Ja (pM p) (Q3 p k)).2=Qz (Q3 p k):=by unfold Qz;rw[E]
   rw[this,z]
  rw[U,M];refine G.permc (λ_=>rfl) (λw=> ?_);simp only[List.count_append];omega
 rw[if_neg b];have S:wL (Q3 p k)=[]:=Do (by omega);by_cases f:0<(wX (Q3 p k)).length
 ·rw[if_pos f]
  by_cases O:(Q0f bk (pM p) (Q3 p k)==0)=Bn
  ·rw[if_pos O]
   have d:=w4.resolve_right λe=>by rw[e.1]at f;simp at f
   have V:Q0f bk (pM p) (Q3 p k)=0:=by simpa using O
   unfold Q0f at V;by_cases W:((Zt bk (mC (pM p)) (Yg (Q3 p k))).2 !=0)=Bn
   ·rw[if_pos W]at V;simp[V]at W
   rw[if_neg W]at V;have W:(Zt bk (mC (pM p)) (Yg (Q3 p k))).2=0:=by simpa using W
   by_cases d2:(decide ((Qx (mC (pM p)):Int)+Zk (Qu (mC (pM p)) (Yg (Q3 p k)))<(Zt bk (mC (pM p)) (Yg (Q3 p k))).1)||decide (1000000000<=(wC (Q3 p k)).getD (Qu (mC (pM p)) (Yg (Q3 p k))-1).toNat 0))=Bn
   ·rw[if_pos d2]at V;simp at V
   simp only[Ew,decide_eq_true_eq,not_or]at d2;have hs:=Qmp f;have A4:J [] (pM p) l (mR (pM p)::Jd ((pW p).eraseIdx k)) (Yg (Q3 p k)::((wX (Q3 p k)).take ((wX (Q3 p k)).length-1)++Qr ((pW p).eraseIdx k))):=X.permc (λw=>by rw[S];rfl) (λw=>by have A5:=congrArg (List.count w) hs;rw[List.count_append,List.count_cons,List.count_nil]at A5;have el:Yg (Q3 p k)=(wX (Q3 p k)).getD ((wX (Q3 p k)).length-1) (0,0):=rfl;rw[List.count_append,List.count_cons,List.count_append,el];omega);obtain⟨l',G,k1,q1,q2⟩:=Qwj hb A4 m i W (by omega);have o:(mC (Q8p bk (pM p) (Q3 p k)).1).length=(mC (pM p)):=Qk7 bk (pM p) _ _ _;have hr:mR (Q8p bk (pM p) (Q3 p k)).1=mR (pM p):=Qvn bk (pM p);have A6:Vj ((wC (Q3 p k)).set (Qu (mC (pM p)) (Yg (Q3 p k))-1).toNat ((wC (Q3 p k)).getD (Qu (mC (pM p)) (Yg (Q3 p k))-1).toNat 0+1))=Bn:=by
    unfold Vj at L⊢;simp only[Bi,beq_iff_eq,Bl]at L⊢;refine⟨L.1,Bf.2 λc A0=> ?_⟩;rcases Fv A0 with A0|rfl
    ·exact Bf.1 L.2 c A0
    have hg:(wC (Q3 p k)).getD (Qu (mC (pM p)) (Yg (Q3 p k))-1).toNat 0∈wC (Q3 p k):=by rw[Ab,Ad (by omega)];exact As _
    have:=Qj.1 (Bf.1 L.2 _ hg);exact Qj.2 (by omega)
   refine h.one K rfl ⟨w1,w2,A6,.inl d⟩ ?_ (l':=l') ?_ ?_ o
   ·have:Qz (Q8p bk (pM p) (Q3 p k)).2=Qz (Q3 p k):=rfl
    rw[this,z]
   ·rw[hr]
    have j2:J [] (Q8p bk (pM p) (Q3 p k)).1 l' _ _:=⟨G.free,G.cover,G.empty,G.words,G.loose,G.reds,G.uses⟩;refine j2.permc (λ_=>rfl) (λw=> ?_);show _=(((wX (Q3 p k)).take ((wX (Q3 p k)).length-1)++mX (Yz bk (pM p) _ _ _).1)++Qr ((pW p).eraseIdx k)).count w;simp only[List.count_append];omega
   exact k1
  rw[if_neg O];exact h
 rw[if_neg f];have T:wX (Q3 p k)=[]:=Do (by omega);have A2:=λa wo=>Qq3 (n:=(pW p)) hn.1 a wo;have g:∀(y:Qxb) (a:Int),wX y=[]->wL y=[]->wC y=wC (Q3 p k)->(1<=wP y/\wP y<=4)->(0<=wV y/\wV y<(pW p))->pA p+(if Qz y then 1 else 0)=a+(if Qz (Q3 p k)then 1 else 0)->Q0y (pM p,(pW p).set k y,a):=λy a M E e3 e4 e5 e6=>h.one K i ⟨e4,e5,by rw[e3];exact L,.inr ⟨M,E⟩⟩ (by rw[z];exact e6) (l':=l) (by rw[M,E,<-T,<-S];exact X) m rfl;by_cases O:(wP (Q3 p k)==1)=Bn
 ·rw[if_pos O]
  have r:wP (Q3 p k)=1:=by simpa using O
  refine g _ _ T S rfl ⟨by show(1:Int)<=2;decide,by show(2:Int)<=4;decide⟩ (A2 _ _) ?_;rw[if_neg (by rw[C];show ¬((2:Int)=1\/(2:Int)=3);decide),if_pos (C.2 (.inl r))];omega
 rw[if_neg O];have d:wP (Q3 p k)≠1:=by simpa using O
 by_cases s:(wP (Q3 p k)==3)=Bn
 ·rw[if_pos s]
  have r:wP (Q3 p k)=3:=by simpa using s
  by_cases F:Q1g p k=Bn
  ·rw[if_pos F]
   rw[Qm6]at F;simp only[Bi,Bool.not_eq_true',beq_eq_false_iff_ne,decide_eq_true_eq]at F;obtain⟨v,t⟩:∃v:Nat,wV (Q3 p k)=(v:Int):=⟨(wV (Q3 p k)).toNat,by omega⟩;rw[t]at w2 F;have hv:v<(pW p):=by omega
   have A7:v≠k:=λe=>F.1 (by rw[e]);have A8:Qjd p k=Q3 p v:=by unfold Qjd;rw[t];rfl
   have u:0<(wX (Q3 p v)).length:=by have:=F.2;rwa [Bq]at this
   obtain⟨B,rs,U⟩:∃B rs,wX (Q3 p v)=B::rs:=by
    match wX (Q3 p v),u with
    |B::rs,_=>exact⟨B,rs,rfl⟩
   obtain⟨x1,x2,x3,x4⟩:=(Q8q.1 (h.2.2.1 v hv)).1;have A3:=x4.resolve_right λe=>by rw[e.1]at U;simp at U
   rw[A8,U,t,Bq];show Q0y (pM p,((pW p).set k (Yx (Yh (Q3 p k) [B]) 1)).set v (Yh (Q3 p v) rs),pA p);obtain⟨l0,j0,-⟩:=h.2.2.2.2.j;have gv:((pW p).set k (Yx (Yh (Q3 p k) [B]) 1)).getD v Qbj=Q3 p v:=by rw[Ab,List.getElem?_set_ne (λe=>A7 e.symm)];rw[<-Ab];rfl
   have A1:v<((pW p).set k (Yx (Yh (Q3 p k) [B]) 1)):=by rw[Bl];exact hv
   have o:(((pW p).set k (Yx (Yh (Q3 p k) [B]) 1)).set v (Yh (Q3 p v) rs)).length=(pW p):=by rw[Bl,Bl]
   have gk:(pW p).getD k Qbj=Q3 p k:=rfl;refine Q0y.mk' (p:=(pM p,((pW p).set k (Yx (Yh (Q3 p k) [B]) 1)).set v (Yh (Q3 p v) rs),pA p)) (l:=l0) (by show 1<=(((pW p).set k _).set v _).length/\(((pW p).set k _).set v _).length<=4;rw[o];exact hn) i ?_ ?_ ?_ m h.2.2.2.2.1
   ·intro j A9
    show Q5f (((pW p).set k _).set v _) _;rw[o];refine Qfd (Qfd (λj X=>(Q8q.1 (h.2.2.1 j X)).1) k ?_) v ?_ j A9
    ·exact⟨⟨by show(1:Int)<=1;decide,by show(1:Int)<=4;decide⟩,by show 0<=wV (Q3 p k)/\wV (Q3 p k)<_;rw[t];exact w2,L,.inl rfl⟩
    exact⟨x1,x2,x3,.inl A3⟩
   ·have P:=Qj6 K (Yx (Yh (Q3 p k) [B]) 1)
    have H:=Qj6 A1 (Yh (Q3 p v) rs);rw[gv]at H;rw[gk,if_pos (C.2 (.inr r)),if_pos (C.2 (.inl rfl))]at P;have sv:Qz (Yh (Q3 p v) rs)=Qz (Q3 p v):=rfl;rw[sv,if_pos (C.2 (.inl A3))]at H;show((List.countP Qz (((pW p).set k _).set v _):Nat):Int)=pA p;omega
   refine j0.permc (λw=> ?_) (λw=> ?_)
   ·have P:=Qb0 (λw=>Qy1 (wL w)) K (Yx (Yh (Q3 p k) [B]) 1) w
    have H:=Qb0 (λw=>Qy1 (wL w)) A1 (Yh (Q3 p v) rs) w;rw[gv]at H;rw[gk]at P;have M:wL (Yx (Yh (Q3 p k) [B]) 1)=wL (Q3 p k):=rfl;have E:wL (Yh (Q3 p v) rs)=wL (Q3 p v):=rfl;rw[M]at P;rw[E]at H;rw[List.count_cons,List.count_cons];have q:(Jd (pW p)).count w=(Jd (((pW p).set k (Yx (Yh (Q3 p k) [B]) 1)).set v (Yh (Q3 p v) rs))).count w:=by rw[Qf3,Qf3];omega
    show _=(Jd (((pW p).set k _).set v _)).count w+_;rw[q];rfl
   have P:=Qb0 wX K (Yx (Yh (Q3 p k) [B]) 1) w;have H:=Qb0 wX A1 (Yh (Q3 p v) rs) w;rw[gv,U]at H;rw[gk,T]at P;have M:wX (Yx (Yh (Q3 p k) [B]) 1)=[B]:=rfl;have E:wX (Yh (Q3 p v) rs)=rs:=rfl;rw[M]at P;rw[E]at H;simp only[List.count_cons,List.count_nil]at P H;show(Qr (pW p)).count w=(Qr (((pW p).set k _).set v _)).count w;unfold Qr;omega
  rw[if_neg F];refine g _ _ T S rfl ⟨by show(1:Int)<=2;decide,by show(2:Int)<=4;decide⟩ w2 ?_;rw[if_neg (by rw[C];show ¬((2:Int)=1\/(2:Int)=3);decide),if_pos (C.2 (.inr r))];omega
 rw[if_neg s];have AA:wP (Q3 p k)≠3:=by simpa using s
 have x:Qz (Q3 p k)=Bm:=by
  rw[Bool.eq_false_iff];intro e;rcases C.1 e with e|e
  ·exact d e
  exact AA e
 by_cases F:(pA p==0)=Bn
 ·rw[if_pos F]
  refine g _ _ T S rfl ⟨by show(1:Int)<=4;decide,by show(4:Int)<=4;decide⟩ w2 ?_;rw[if_neg (by rw[C];show ¬((4:Int)=1\/(4:Int)=3);decide),x];rfl
 rw[if_neg F];by_cases u:Q1g p k=Bn
 ·rw[if_pos u]
  refine g _ _ T S rfl ⟨by show(1:Int)<=3;decide,by show(3:Int)<=4;decide⟩ w2 ?_;rw[if_pos (C.2 (.inr rfl)),x];simp
 rw[if_neg u];refine g _ _ T S rfl w1 (A2 _ _) ?_;rw[x,show Qz (Q6k (Q3 p k) (Q0r (pW p) (wV (Q3 p k)) k))=Qz (Q3 p k)from rfl,x]
abbrev Q4u:=Ye×Int×Int×Int
def fP(x:Q4u):Ye:=x.1
def fF(x:Q4u):Int:=x.2.1
def fB(x:Q4u):Int:=x.2.2.1
def fD(x:Q4u):Int:=x.2.2.2
abbrev Q10:=List Q4u×Int×Int
def Q7t(p:Ye):Q4u:=(p,-1,-1,0)
def Q04(p:Ye)(w:Q10)(i:Nat):Q4u:=w.1.getD i (Q7t p)
def Y6(bk:List Qy0)(x:Q4u)(i:Nat)(w:Q10)(k:Int):Q10:=
 if(Yo bk (fP x) k.toNat).1==0 then
  if w.1.any λy=>Qyo Qv (fP y) (Yo bk (fP x) k.toNat).2 then(w.1,w.2.1+1,w.2.2)
  else(w.1++ [((Yo bk (fP x) k.toNat).2,(i:Int),k,fD x+1)],w.2.1+1,w.2.2)
 else(w.1,w.2.1,w.2.2+1)
def Q0l(bk:List Qy0)(p:Ye)(w:Q10)(i:Nat):Q10:=(Q2x (fP (Q04 p w i))).foldl (Y6 bk (Q04 p w i) i) w
def Q4m(bk:List Qy0)(p:Ye)(most:Int):Nat->Nat->Q10->Option Q10
 |0,_,w=>R w
 |n+1,i,w=>if i<w.1 then(if most<(Q0l bk p w i).1.length then N else Q4m bk p most n (i+1) (Q0l bk p w i))else R w
def Jp(p:Ye):Q10:=([Q7t p],0,0)
def Q9q(bk x i w k):w.1<=(Y6 bk x i w k).1.length/\(Y6 bk x i w k).1.length<=w.1+1/\(Y6 bk x i w k).1.take w.1.length=w.1:=by
 grind[Y6]
theorem Q6z(bk:List Qy0)(x:Q4u)(i:Nat):∀(B:List Int) (w:Q10),w.1<=(B.foldl (Y6 bk x i) w).1.length/\(B.foldl (Y6 bk x i) w).1.length<=w.1+B.length/\(B.foldl (Y6 bk x i) w).1.take w.1.length=w.1
 | [],w=>by simp
 |k::B,w=>by obtain⟨C,G,E⟩:=Q9q bk x i w k;obtain⟨H,J,F⟩:=Q6z bk x i B (Y6 bk x i w k);rw[Cb,Br];refine⟨by omega,by omega, ?_⟩;have:=congrArg (List.take w.1) F;rw[List.take_take,Nat.min_eq_left C,E]at this;exact this
def Qeu(p):(Q2x p).length<=(pW p):=by
 unfold Q2x;grind
structure Q88 (bk:List Qy0) (p0:Ye) (w:Q10):Prop where
 ne:0<w.1.length
 first:Q04 p0 w 0=Q7t p0
 pool:∀x∈w.1,Q0y (fP x)/\(mC (pM (fP x))).length=(mC (pM p0)).length/\(pW (fP x)).length=(pW p0).length
 from_:∀j,0<j->j<w.1.length->0<=fF (Q04 p0 w j)/\fF (Q04 p0 w j)<j
 by_:∀x∈w.1,-1<=fB x/\fB x<4
 depth:∀j,j<w.1.length->0<=fD (Q04 p0 w j)/\fD (Q04 p0 w j)<=j
def Qo9{m w}:(mC (Ja m w).1).length=(mC m):=by
 unfold Ja;simp only;repeat' split
 ·exact Za
 ·exact Q01 _ _
 ·exact Za
 rfl
def Qsx(bk p k):(mC (pM (Yo bk p k).2)).length=(mC (pM p))/\(pW (Yo bk p k).2).length=(pW p):=by
 unfold Yo;simp only;split
 ·exact⟨Qo9,by show((pW p).set k _).length=_;rw[Bl]⟩
 split
 ·split
  ·exact⟨Qk7 bk (pM p) _ _ _,by show((pW p).set k _).length=_;rw[Bl]⟩
  exact⟨rfl,rfl⟩
 repeat' split
 ·exact⟨rfl,by show((pW p).set k _).length=_;rw[Bl]⟩
 ·exact⟨rfl,by show(((pW p).set k _).set _ _).length=_;rw[Bl,Bl]⟩
 all_goals exact⟨rfl,by show((pW p).set k _).length=_;rw[Bl]⟩
def Qec{bk p x i j w k}(h:j<w.1):Q04 p (Y6 bk x i w k) j=Q04 p w j:=by
 grind[Y6,Q04]
def Qmb{p w w' j}(h:w'.1=w.1):Q04 p w' j=Q04 p w j:=by unfold Q04;rw[h]
def Q8x{p w i}(h:i<w.1):Q04 p w i∈w.1:=by
 grind[Q04]
theorem Q88.start{bk p}(h:Q0y p):Q88 bk p (Jp p):=by
 refine⟨by simp[Jp],rfl,λx B=> ?_,λj F E=> ?_,λx B=> ?_,λj C=> ?_⟩
 ·obtain rfl:x=Q7t p:=by simpa[Jp]using B
  exact⟨h,rfl,rfl⟩
 ·simp[Jp]at E;omega
 ·obtain rfl:x=Q7t p:=by simpa[Jp]using B
  exact⟨by show(-1:Int)<= -1;decide,by show(-1:Int)<4;decide⟩
 have C:j=0:=by simp[Jp]at C;omega
 subst C;exact⟨Int.le_refl 0,Int.le_refl 0⟩
theorem Q88.step{bk:List Qy0}{p0 w}{i:Nat}{k:Int}(T:∀n∈bk,Yd n=Bn)(h:Q88 bk p0 w)(K:i<w.1)(b:0<=k/\k<(pW (fP (Q04 p0 w i)))):Q88 bk p0 (Y6 bk (Q04 p0 w i) i w k):=by
 obtain⟨L,M,G,U,O,H⟩:=h;obtain⟨P,V,W⟩:=G _ (Q8x K);have c:=P.1.2;by_cases X:(Yo bk (fP (Q04 p0 w i)) k.toNat).1==0 && !(w.1.any λy=>Qyo Qv (fP y) (Yo bk (fP (Q04 p0 w i)) k.toNat).2)
 ·simp only[Bi,Bool.not_eq_true']at X
  have e:Y6 bk (Q04 p0 w i) i w k=(w.1++ [((Yo bk (fP (Q04 p0 w i)) k.toNat).2,(i:Int),k,fD (Q04 p0 w i)+1)],w.2.1+1,w.2.2):=by grind[Y6]
  have C:∀j,j<w.1.length->Q04 p0 (Y6 bk (Q04 p0 w i) i w k) j=Q04 p0 w j:=λj E=>Qec E;have Y:Q04 p0 (Y6 bk (Q04 p0 w i) i w k) w.1.length=((Yo bk (fP (Q04 p0 w i)) k.toNat).2,(i:Int),k,fD (Q04 p0 w i)+1):=by rw[e];unfold Q04;simp
  have a:(Y6 bk (Q04 p0 w i) i w k).1.length=w.1+1:=by rw[e];simp
  have S:=Qsx bk (fP (Q04 p0 w i)) k.toNat;have d:=H i K;refine⟨by omega,by rw[C 0 L];exact M,λx B=> ?_,λj q1 F=> ?_,λx B=> ?_,λj E=> ?_⟩
  ·rw[e]at B
   rcases At0.1 B with B|B
   ·exact G x B
   rw[Bb.1 B];refine⟨Qd4 T P (by omega),S.1.trans V,S.2.trans W⟩
  ·rw[a]at F
   by_cases J:j<w.1.length
   ·grind
   obtain rfl:j=w.1.length:=by omega
   rw[Y];show(0:Int)<=(i:Int)/\(i:Int)<(w.1:Int);omega
  ·rw[e]at B
   rcases At0.1 B with B|B
   ·exact O x B
   rw[Bb.1 B];show(-1:Int)<=k/\k<4;omega
  by_cases J:j<w.1.length
  ·rw[C j J];exact H j J
  grind[fD]
 have e:(Y6 bk (Q04 p0 w i) i w k).1=w.1:=by grind[Y6]
 have C:∀j,Q04 p0 (Y6 bk (Q04 p0 w i) i w k) j=Q04 p0 w j:=λj=>Qmb e;exact⟨by rw[e];exact L,by rw[C];exact M,by rw[e];exact G,λj q1 F=>by rw[C];rw[e]at F;exact U j q1 F,by rw[e];exact O,λj E=>by rw[C];rw[e]at E;exact H j E⟩
def Qiw{p k}(h:k∈Q2x p):0<=k/\k<(pW p):=by
 grind[Q2x]
def Q88.fold{bk:List Qy0}{p0:Ye}{i:Nat}{x:Q4u}(C:∀n∈bk,Yd n=Bn):∀(B:List Int) (w:Q10),Q88 bk p0 w->i<w.1->Q04 p0 w i=x->(∀k∈B,0<=k/\k<(pW (fP x)).length)->Q88 bk p0 (B.foldl (Y6 bk x i) w)
 | [],_,h,_,_,_=>h
 |k::B,w,h,hi,hx,hk=>by subst hx;have G:=Q9q bk (Q04 p0 w i) i w k;exact Q88.fold C B _ (h.step C hi (hk k Ae)) (by omega) (Qec hi) λE F=>hk E (Aa _ F)
def Q88.expand{bk:List Qy0}{p0 w}{i:Nat}(B:∀n∈bk,Yd n=Bn)(h:Q88 bk p0 w)(C:i<w.1):Q88 bk p0 (Q0l bk p0 w i):=
 Q88.fold B _ w h C rfl λ_ E=>Qiw E
def Qaj{bk p0 w}{i:Nat}(h:Q88 bk p0 w)(B:i<w.1):w.1<=(Q0l bk p0 w i).1.length/\(Q0l bk p0 w i).1.length<=w.1+4:=by
 have C:=Q6z bk (Q04 p0 w i) i (Q2x (fP (Q04 p0 w i))) w;have E:=Qeu (fP (Q04 p0 w i));have F:=(h.pool _ (Q8x (p:=p0) B)).1.1.2;grind[Q0l]
def Qkt{bk:List Qy0}{p0:Ye}{most:Int}(C:∀n∈bk,Yd n=Bn):∀(n i:Nat) (w w':Q10),Q88 bk p0 w->(w.1:Int)<=most->Q4m bk p0 most n i w=R w'->Q88 bk p0 w'/\(w'.1:Int)<=most
 |0,_,w,w',h,hm,e=>by unfold Q4m at e;obtain rfl:=Option.some.inj e;exact⟨h,hm⟩
 |n+1,i,w,w',h,hm,e=>by
  unfold Q4m at e;by_cases B:i<w.1
  ·rw[if_pos B]at e
   split at e
   ·cases e
   exact Qkt C n (i+1) _ w' (h.expand C B) (by omega) e
  rw[if_neg B]at e;obtain rfl:=Option.some.inj e;exact⟨h,hm⟩
def Q3b(p0:Ye)(w:Q10):Nat->Nat->List Int
 |0,_=> []
 |n+1,j=>if 0<j then fB (Q04 p0 w j)::Q3b p0 w n (fF (Q04 p0 w j)).toNat else []
theorem Qnu{bk p0 w}(h:Q88 bk p0 w):∀(j:Nat),j<w.1->∀n m,j<=n->j<=m->Q3b p0 w n j=Q3b p0 w m j:=by
 intro j;induction j using Nat.strongRecOn with
 |_ j ih=>
  intro B n m C E;by_cases e:j=0
  ·subst e
   cases n<;>cases m<;>simp[Q3b]
  obtain⟨q1,F⟩:=h.from_ j (by omega) B;cases n with
  |zero=>omega
  |succ n=>
   cases m with
   |zero=>omega
   |succ m=>simp only[Q3b];grind
def Qod{p0:Ye}{w:Q10}:∀n j,(Q3b p0 w n j)<=n
 |0,_=>by simp[Q3b]
 |n+1,j=>by
  unfold Q3b;split
  ·have:=Qod (p0:=p0) (w:=w) n (fF (Q04 p0 w j)).toNat
   simp only[Br];omega
  simp
def Q25(w:Q10)(q:Ye):Option Nat:=w.1.findIdx? λy=>Qyo Qv (fP y) q
def Q1p(bk:List Qy0)(p q:Ye)(most:Int):List Int×Int:=
 if !Jw q then([],1)
 else if !(Q0s bk && Jw p)then([],1)
 else if !(Qxi most 1 400)then([],2)
 else match Q4m bk p most (most.toNat+1) 0 (Jp p)with
  |none=>([],4)
  |some w=>match Q25 w q with
   |none=>([],3)
   |some j=>((Q3b p w j j).reverse,0)
def Qt3(c:UInt8):Bool:=decide (48<=c.toNat) && decide (c.toNat<=57)
theorem Qj9{n}(h:n<10):(UInt8.ofNat (48+n)).toNat=48+n:=by
 rw[UInt8.toNat_ofNat'];omega
def Qfc:∀(u:Nat),∀c∈Lib.decDigits u,Qt3 c=Bn:=by
 intro u;induction u using Nat.strongRecOn with
 |_ u ih=>intro c B;rw[Lib.decDigits]at B;grind[Qt3,Qj9]
def Qrh(l:List UInt8):Nat:=l.foldl (λa c=>a * 10+(c.toNat-48)) 0
theorem Qqx:∀(u:Nat),Qrh (Lib.decDigits u)=u:=by
 intro u;induction u using Nat.strongRecOn with
 |_ u ih=>rw[Lib.decDigits];grind[Qrh,Qj9]
theorem Qoq{u v}(h:Lib.decDigits u=Lib.decDigits v):u=v:=by grind[Qqx]
theorem Qf0{a b}(h:Lib.itoa a=Lib.itoa b):a=b:=by
 unfold Lib.itoa at h;have B:∀(u:Nat) (l:List UInt8),Lib.decDigits u≠45::l:=λu l e=>by have:=Qfc u 45 (by rw[e];exact Ae);exact absurd this (by decide)
 grind[Qoq]
theorem Q1z{a}:∀c∈Lib.itoa a,c≠32/\c≠59:=λc B=>by
 have C:∀c,Qt3 c=Bn->c≠32/\c≠59:=λc h=>by constructor<;>(intro e;rw[e]at h;exact absurd h (by decide))
 unfold Lib.itoa at B;split at B
 ·rcases Aq.1 B with rfl|B
  ·decide
  exact C c (Qfc _ c B)
 exact C c (Qfc _ c B)
def Qf7{s:UInt8}:∀ {a b:List UInt8} {r t:List UInt8},(∀c∈a,c≠s)->(∀c∈b,c≠s)->a++s::r=b++s::t->a=b/\r=t
 | [],[],_,_,_,_,h=>⟨rfl,(List.cons.inj h).2⟩
 | [],y::b,_,_,_,hb,h=>absurd (List.cons.inj h).1.symm (hb y Ae)
 |x::a,[],_,_,ha,_,h=>absurd (List.cons.inj h).1 (ha x Ae)
 |x::a,y::b,_,_,ha,hb,h=>by obtain⟨C,E⟩:=List.cons.inj h;obtain⟨F,G⟩:=Qf7 (λc B=>ha c (Aa _ B)) (λc B=>hb c (Aa _ B)) E;exact⟨by rw[C,F],G⟩
def Q1f(l:List Int):List UInt8:=l.flatMap λn=>32::Lib.itoa n
theorem Qv1(l):∀c∈Q1f l,c≠59:=λc B=>by
 obtain⟨n,-,B⟩:=Cz.1 B;rcases Aq.1 B with rfl|B
 ·decide
 exact(Q1z c B).2
theorem Qlj:∀ {l m:List Int},l.length=m->Q1f l=Q1f m->l=m
 | [],[],_,_=>rfl
 |a::l,b::m,hl,h=>by
  have B:Lib.itoa a++Q1f l=Lib.itoa b++Q1f m:=(List.cons.inj h).2;have C:l.length=m:=by simpa using hl
  match l,m,C,B with
  | [],[],_,B=>rw[show a=b from Qf0 (by simpa[Q1f]using B)]
  |c::l,d::m,C,B=>have F:Lib.itoa a++32::(Lib.itoa c++Q1f l)=Lib.itoa b++32::(Lib.itoa d++Q1f m):=B;obtain⟨G,H⟩:=Qf7 (λc E=>(Q1z c E).1) (λc E=>(Q1z c E).1) F;have J:Q1f (c::l)=Q1f (d::m):=congrArg (List.cons 32) H;rw[Qf0 G,Qlj C J]
def Vz(l:List Int):List UInt8:=Lib.itoa l.length++(Q1f l++ [59])
def Qu9{l m r t}(h:Vz l++r=Vz m++t):l=m/\r=t:=by
 unfold Vz at h;have F:(Lib.itoa l.length++Q1f l)++59::r=(Lib.itoa m.length++Q1f m)++59::t:=by simpa using h
 have E:∀(k:List Int),∀c∈Lib.itoa k.length++Q1f k,c≠59:=λk c C=>by grind[Q1z,Qv1]
 obtain⟨B,G⟩:=Qf7 (E l) (E m) F;refine⟨?_,G⟩;have J:l.length=m:=by
  match l,m,B with
  | [],[],_=>rfl
  | [],b::m,B=>
   exfalso;have B:Lib.itoa 0=Lib.itoa ((b::m):Int)++32::(Lib.itoa b++Q1f m):=by simpa[Q1f]using B
   have:(32:UInt8)∈Lib.itoa 0:=by rw[B];simp
   grind[Q1z]
  |a::l,[],B=>
   exfalso;have B:Lib.itoa ((a::l):Int)++32::(Lib.itoa a++Q1f l)=Lib.itoa 0:=by simpa[Q1f]using B
   have:(32:UInt8)∈Lib.itoa 0:=by rw[<-B];simp
   grind[Q1z]
  |a::l,b::m,B=>have H:=B;have:=Qf0 (Qf7 (λc C=>(Q1z c C).1) (λc C=>(Q1z c C).1) H).1;omega
 grind[Qlj,List.append_cancel_left]
theorem Ql3:∀ {a b:List (List Int)},a.flatMap Vz=b.flatMap Vz->a=b
 | [],[],_=>rfl
 | [],m::b,h=>by
  exfalso;have:(59:UInt8)∈([]:List (List Int)).flatMap Vz:=by rw[h];simp[Vz]
  simp at this
 |l::a,[],h=>by
  exfalso;have:(59:UInt8)∈([]:List (List Int)).flatMap Vz:=by rw[<-h];simp[Vz]
  simp at this
 |l::a,m::b,h=>by rw[Cr,Cr]at h;obtain⟨B,C⟩:=Qu9 h;rw[B,Ql3 C]
def Q3c(w:Wd):List Int:=[w.1,w.2]
def Q3q(l:Qy3):List Int:=[l.1.1,l.1.2,l.2.1,l.2.2]
def Qhb(c:Qb):List (List Int):=[aK c,aL c,aV c]::aD c::(aW c).map Q3c
def Qrk(w:Qxb):List (List Int):=[wP w,wV w,((wX w):Int),((wL w):Int)]::wC w::((wX w).map Q3c++(wL w).map Q3q)
def Qvo(p:Ye):List (List Int):=[pA p,mF (pM p),(mR (pM p)).1,(mR (pM p)).2]::((mC (pM p)).flatMap Qhb++(pW p).flatMap Qrk)
def Q86(p:Ye):List UInt8:=(Qvo p).flatMap Vz
def Qkd:∀ {a b:List Wd} {r t:List (List Int)},(∀x∈r.head?,x.length≠2)->(∀x∈t.head?,x.length≠2)->a.map Q3c++r=b.map Q3c++t->a=b/\r=t
 | [],[],_,_,_,_,h=>⟨rfl,h⟩
 | [],y::b,r,t,hr,_,h=>by exfalso;have h:r=Q3c y::(b.map Q3c++t):=h;exact hr (Q3c y) (by rw[h];rfl) rfl
 |x::a,[],r,t,_,ht,h=>by exfalso;have h:Q3c x::(a.map Q3c++r)=t:=h;exact ht (Q3c x) (by rw[<-h];rfl) rfl
 |x::a,y::b,r,t,hr,ht,h=>by
  obtain⟨B,C⟩:=List.cons.inj h;obtain⟨E,F⟩:=Qkd hr ht C;have e:x=y:=by simp only[Q3c,Ed,and_true]at B;exact Dz B.1 B.2
  exact⟨by rw[e,E],F⟩
def Qi0:∀ {a b:List Qb} {r t:List (List Int)},(∀x∈r.head?,x.length=4)->(∀x∈t.head?,x.length=4)->a.flatMap Qhb++r=b.flatMap Qhb++t->a=b/\r=t
 | [],[],_,_,_,_,h=>⟨rfl,h⟩
 | [],y::b,r,t,C,_,h=>by exfalso;have:=C [aK y,aL y,aV y] (by rw[show r=_ from h];rfl);simp at this
 |x::a,[],r,t,_,ht,h=>by exfalso;have:=ht [aK x,aL x,aV x] (by rw[<-show _=t from h];rfl);simp at this
 |x::a,y::b,r,t,C,ht,h=>by
  have h: [aK x,aL x,aV x]::aD x::((aW x).map Q3c++(a.flatMap Qhb++r))=[aK y,aL y,aV y]::aD y::((aW y).map Q3c++(b.flatMap Qhb++t)):=by simpa[Qhb]using h
  obtain⟨E,F⟩:=List.cons.inj h;obtain⟨F,H⟩:=List.cons.inj F;have G:∀(l:List Qb) (r:List (List Int)),(∀x∈r.head?,x.length=4)->∀x∈(l.flatMap Qhb++r).head?,x.length≠2:=λl r C x B=>by
   match l,B with
   | [],B=>have:=C x B;omega
   |c::l,B=>have B:x∈R [aK c,aL c,aV c]:=B;obtain rfl:=Option.some.inj B;simp
  obtain⟨J,K⟩:=Qkd (G a r C) (G b t ht) H;obtain⟨L,M⟩:=Qi0 C ht K;simp only[Ed,and_true]at E;have e:x=y:=Dz E.1 (Dz E.2.1 (Dz E.2.2 (Dz F J)));exact⟨by rw[e,L],M⟩
def Q7o{α:Type}{f:α->List Int}(B:∀a b,f a=f b->a=b):∀ {a b:List α} {r t:List (List Int)},a.length=b.length->a.map f++r=b.map f++t->a=b/\r=t
 | [],[],_,_,_,h=>⟨rfl,h⟩
 |x::a,y::b,r,t,hl,h=>by obtain⟨C,E⟩:=List.cons.inj h;obtain⟨F,G⟩:=Q7o B (by simpa using hl) E;exact⟨by rw[B _ _ C,F],G⟩
theorem Qka:∀ {a b:List Qxb},a.flatMap Qrk=b.flatMap Qrk->a=b
 | [],[],_=>rfl
 | [],y::b,h=>by cases (show []=Qrk y++_ from h)
 |x::a,[],h=>by cases (show Qrk x++_=[]from h)
 |x::a,y::b,h=>by
  have h: [wP x,wV x,((wX x):Int),((wL x):Int)]::wC x::((wX x).map Q3c++((wL x).map Q3q++a.flatMap Qrk))=[wP y,wV y,((wX y):Int),((wL y):Int)]::wC y::((wX y).map Q3c++((wL y).map Q3q++b.flatMap Qrk)):=by simpa[Qrk]using h
  obtain⟨B,C⟩:=List.cons.inj h;obtain⟨C,E⟩:=List.cons.inj C;simp only[Ed,and_true]at B;obtain⟨F,G⟩:=Q7o (f:=Q3c) (λa b e=>by simp only[Q3c,Ed,and_true]at e;exact Dz e.1 e.2) (by omega) E;obtain⟨H,J⟩:=Q7o (f:=Q3q) (λa b e=>by simp only[Q3q,Ed,and_true]at e;exact Dz (Dz e.1 e.2.1) (Dz e.2.2.1 e.2.2.2)) (by omega) G;have e:x=y:=Dz B.1 (Dz B.2.1 (Dz F (Dz H C)));rw[e,Qka J]
theorem Quw{p q}(F:mX (pM p)=[])(G:mX (pM q)=[])(h:Q86 p=Q86 q):p=q:=by
 have H:=Ql3 h;obtain⟨B,J⟩:=List.cons.inj H;have E:∀(ws:List Qxb),∀x∈(ws.flatMap Qrk).head?,x.length=4:=λws x C=>by
  match ws,C with
  |w::ws,C=>have C:=C;obtain rfl:=Option.some.inj C;rfl
 obtain⟨K,L⟩:=Qi0 (E _) (E _) J;simp only[Ed,and_true]at B;have e:=Dz K (Dz B.2.1 (Dz (Dz B.2.2.1 B.2.2.2) (F.trans G.symm)));exact Dz e (Dz (Qka L) B.1)
end Go.Proofs.YtcjngpfigpglfaaGreatDoor
