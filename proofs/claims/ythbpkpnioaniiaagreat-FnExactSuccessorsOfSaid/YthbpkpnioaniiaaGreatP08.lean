import Derived.Test.YthbpkpnioaniiaaGreatP07
set_option maxHeartbeats 40000000
set_option maxRecDepth 100000
set_option linter.all false
namespace Go.Proofs.YthbpkpnioaniiaaGreat
open Go.RowKit Go.Proofs.Tryz
open Go.Value renaming int->I,slice->A
open Go.IntKind renaming i64->Z
open Option renaming none->N,some->R
open Bool renaming true->Bn,and_eq_true->Bl,true_and->Dl
open Go renaming World->Bh,maxLen->Bp,Value->Bk,Addr->Cm,Calls->Bq,heap_alloc_new->Bg
open List renaming pairwise_flatten->Dv,length_set->Br,ext_getElem?->Du,getElem?_take->Cu,getElem?_drop->Ct,length_append->Bo
def Qrh(m:Qqp)(held rs:List Wd):Prop:=(1<=(mC m).length/\(mC m).length<=1500)/\rs.length<=(mC m).length/\(∀i,i<(mC m).length->Yg (Qn (mC m) i)=Bn)/\(∀w∈Z6 m++held,Zh (mC m) w=Bn)/\(∀p∈rs,Zx (mC m) p=Bn)/\
  (∀i,i<(mC m).length->Q5d (Qn (mC m) i) (Jg (Z6 m++held) rs i)=Bn)/\Zg (mC m) (Z3 (mC m)) (mF m)=Bn
def Qrg(p:J9):Prop:=(1<=(pW p).length/\(pW p).length<=4)/\mX (pM p)=[]/\(∀k,k<(pW p).length->Zw (pW p).length (Q5 p k)=Bn)/\(((pW p).countP Y3:Nat):Int)=pA p/\Qrh (pM p) (Vi (pW p)) (Qz (pW p))
theorem Qrh.of{m:Qqp}{held rs:List Wd}(h:Q0g m held rs=Bn):Qrh m held rs:=by
 unfold Q0g at h;simp only[Bl]at h;obtain⟨C,E,F,G,H,J,K⟩:=h;have C:=Ql.1 C;refine⟨by omega,by simpa using E,λi B=> ?_,Bf.1 G,Bf.1 H,λi B=> ?_,K⟩
 ·rw[Qx B];exact Bf.1 F _ (As B)
 ·have:=Bf.1 J i (List.mem_range.2 B)
  simp only[Bl]at this;exact this.1
theorem Qrg.of{p:J9}(h:J2 p=Bn):Qrg p:=by
 unfold J2 at h;simp only[Bl]at h;obtain⟨⟨B,E⟩,F,G,H⟩:=h;have B:=Ql.1 B;refine⟨by omega,by simpa using E,λk C=> ?_,by simpa using G,Qrh.of H⟩;have:=Bf.1 F (pW p)[k] (As C);rw[Q5,Ab,Ad C];exact this
theorem Q1d{p:J9}(h:Qrg p):(1<=(pW p).length/\(pW p).length<=4)/\mX (pM p)=[]/\(∀k,k<(pW p).length->Zw (pW p).length (Q5 p k)=Bn)/\(((pW p).countP Y3:Nat):Int)=pA p/\Qrh (pM p) (Vi (pW p)) (Qz (pW p)):=h
theorem Q4j{m:Qqp}{held rs:List Wd}(h:Qrh m held rs):(1<=(mC m).length/\(mC m).length<=1500)/\rs.length<=(mC m).length/\(∀i,i<(mC m).length->Yg (Qn (mC m) i)=Bn)/\(∀w∈Z6 m++held,Zh (mC m) w=Bn)/\(∀p∈rs,Zx (mC m) p=Bn)/\
  (∀i,i<(mC m).length->Q5d (Qn (mC m) i) (Jg (Z6 m++held) rs i)=Bn)/\Zg (mC m) (Z3 (mC m)) (mF m)=Bn:=h
theorem Q4h{c:Qb}(h:Yg c=Bn)(C:J5 (aK c)=Bn):Q0b (aK c) (Q1l (aK c) ((aW c).length+1))=((aW c).length:Int)+1/\Zy (aK c) (aL c)=Bn/\Zt (aK c) (aV c) (aD c)=Bn:=by
 have G:=Ql.1 C;unfold Yg at h;rw[if_neg (by simp;omega),if_neg (by simp;omega)]at h;simp only[Yc,Bl]at h;obtain⟨-,⟨⟨H,B⟩,E⟩,F⟩:=h;have B:((aW (Z7 c)).length:Int)=Q0b (aK (Z7 c)) (Q1l (aK (Z7 c)) (aW (Z7 c)).length):=by simpa using B
 have e:(aW (Z7 c)).length=(aW c).length+1:=by simp[Z7,aW]
 rw[e]at B;refine⟨?_,E,F⟩;have:=B.symm;simp only[Z7,aK]at this⊢;omega
theorem Q6y{c:Qb}(h:Yg c=Bn)(G:J5 (aK c)=Bn):
  ((aK c=2\/aK c=3\/aK c=4\/aK c=7)->(aW c).length=2)/\((aK c=8\/aK c=10\/aK c=11)->(aW c).length=1)/\((aK c=5\/aK c=6\/aK c=12)->(aW c).length=0)/\(aW c).length<=3/\(aD c).length<=4/\
   (aK c=8->(aD c).length=1)/\(aK c=10->1<=(aD c).length)/\(aK c=11->(aD c).length=2)/\(aK c=9->0<=aV c)/\(aK c=12->0<=aV c/\aV c<=23)/\(0<=aL c/\aL c<=8):=by
 obtain⟨E,F,B⟩:=Q4h h G;have P:=Ql.1 G;have K:0<=aL c/\aL c<=8:=by
  unfold Zy at F;split at F
  ·exact Ql.1 F
  ·simp only[Bl,beq_iff_eq]at F;omega
 have L:aK c=2\/aK c=3\/aK c=4\/aK c=5\/aK c=6\/aK c=7\/aK c=8\/aK c=9\/aK c=10\/aK c=11\/aK c=12:=by omega
 generalize (aW c).length=nw at *
 generalize hnd:(aD c)=d at *
 have C:∀ {n H J:Int},Qqz n H J=Bn->H<=n/\n<=J:=λh=>Ql.1 h;rcases L with e|e|e|e|e|e|e|e|e|e|e<;>rw[e]at E B⊢<;>simp only[Q0b,Q1l,Zt,Q3r,Bl,beq_iff_eq]at E B<;>simp at E B⊢
 case inr.inr.inr.inr.inr.inr.inr.inl=>
  have M:=B.2;rw[B.1];have S:=C M;split at E
  ·rename_i O;have:=C O;refine⟨by omega,by simp,by omega,K⟩
  ·omega
 all_goals(repeat' (first|apply And.intro|omega|(intro;omega)))
 all_goals(first|omega|(have:=C B.2.1;omega)|(have:=C B.2;omega)|(have:=C B;omega)|(rw[B.1];simp)|(rw[B.2];simp)|simp_all|skip)
theorem Qj6{X Y:Qb}(K:Zy (aK X) (aL X)=Bn)(L:Zy (aK Y) (aL Y)=Bn)(M:aK X≠1)(O:aK Y≠1):
  Q1v (Z7 X) (Z7 Y)=8\/∃x y,((V2 (aK X) (aL X) (aK Y) (aL Y)=2/\x=Y/\y=X)\/(V2 (aK X) (aL X) (aK Y) (aL Y)≠2/\x=X/\y=Y))/\
   Q1v (Z7 X) (Z7 Y)=V9 (aK x) (aL x) (aK y) (aL y)/\V9 (aK x) (aL x) (aK y) (aL y)≠0/\(aK x=9->aK y=10->aV x<(aD y).length):=by
 have J:Q4t (aK X) (aL X) (aK Y) (aL Y)=Bn:=by simp[Q4t,K,L,M,O]
 have P:Q1v (Z7 X) (Z7 Y)=Q1v X Y:=rfl;rw[P];unfold Q1v;by_cases C:(aK X==9 && (aK Y==10 && decide (((aD Y).length:Int)<=aV X)))=Bn
 ·left;rw[if_pos C]
 ·rw[if_neg C]
  by_cases E:(aK X==10 && (aK Y==9 && decide (((aD X).length:Int)<=aV Y)))=Bn
  ·left;rw[if_pos E]
  ·rw[if_neg E]
   unfold Yx V2;rw[if_pos J,if_pos J];by_cases B:V9 (aK X) (aL X) (aK Y) (aL Y)=0
   ·by_cases F:V9 (aK Y) (aL Y) (aK X) (aL X)=0
    ·left;simp[B,F]
    ·right
     refine⟨Y,X,.inl ⟨by simp[B,F],rfl,rfl⟩,by simp[B,F],F,λG H=> ?_⟩;simp only[G,H,beq_self_eq_true,Dl,decide_eq_true_eq]at E;simp at E;omega
   ·right
    refine⟨X,Y,.inr ⟨by simp[B],rfl,rfl⟩,by simp[B],B,λG H=> ?_⟩;simp only[G,H,beq_self_eq_true,Dl,decide_eq_true_eq]at C;simp at C;omega
theorem Q57{ka la kb lb:Int}(h:V9 ka la kb lb≠0):
  (V9 ka la kb lb=1/\ka=2/\kb=3)\/(V9 ka la kb lb=2/\ka=4/\kb=4)\/(V9 ka la kb lb=3/\ka=4)\/(V9 ka la kb lb=4/\ka=5)\/
  (V9 ka la kb lb=5/\ka=6/\(kb=7\/kb=8))\/(V9 ka la kb lb=6/\((ka=6/\kb=11)\/(ka=9/\kb=10)))\/(V9 ka la kb lb=7/\ka=12):=by
 unfold V9 at h⊢;repeat' split
 all_goals simp_all
theorem Q3m(cs:List Qb)(p:Wd):(Zl cs p=p/\xM cs p=Q7 cs p.1/\yM cs p=Q7 cs p.2)\/(Zl cs p=(p.2,p.1)/\xM cs p=Q7 cs p.2/\yM cs p=Q7 cs p.1):=by
 unfold xM yM Zl;split
 ·exact .inr ⟨rfl,rfl,rfl⟩
 ·exact .inl ⟨rfl,rfl,rfl⟩
theorem Q05{cs:List Qb}{p:Wd}(h:Zx cs p=Bn):(0<=p.1/\p.1<p.2/\p.2<cs.length)/\J5 (aK (Q7 cs p.1))=Bn/\J5 (aK (Q7 cs p.2))=Bn:=by
 unfold Zx at h;simp only[Bl]at h;obtain⟨B,C,E,F⟩:=h;have B:=Ql.1 B;have C:=Ql.1 C;exact⟨by omega,E,F⟩
theorem Qgf{cs:List Qb}{p:Wd}(h:Zx cs p=Bn):Qq9 cs p:=by
 have:=(Q05 h).1;unfold Qq9;omega
theorem Q2m{cs:List Qb}{w:Wd}(h:Zh cs w=Bn):(0<=w.2/\w.2<cs.length)/\((w.1=1/\J5 (aK (Q7 cs w.2))=Bn)\/(w.1=2/\aK (Q7 cs w.2)=13)):=by
 unfold Zh at h;simp only[Bl,Bool.or_eq_true,beq_iff_eq]at h;have:=Ql.1 h.1;exact⟨by omega,h.2⟩
theorem Q5w{cs:List Qb}{p:Wd}(C:∀i,i<cs.length->Yg (Qn cs i)=Bn)(h:Zx cs p=Bn):
  Z4 cs p=8\/((1<=Z4 cs p/\Z4 cs p<=7)/\V9 (aK (xM cs p)) (aL (xM cs p)) (aK (yM cs p)) (aL (yM cs p))=Z4 cs p/\(aK (xM cs p)=9->aK (yM cs p)=10->aV (xM cs p)<(aD (yM cs p)).length)):=by
 obtain⟨⟨K,L,M⟩,ka,kb⟩:=Q05 h;have F:Yg (Q7 cs p.1)=Bn:=C _ (by omega);have G:Yg (Q7 cs p.2)=Bn:=C _ (by omega);have H:=Q4h F ka;have J:=Q4h G kb;have O:=Ql.1 ka;have P:=Ql.1 kb;rcases Qj6 H.2.1 J.2.1 (by omega) (by omega)with h8|⟨x,y,hxy,he,hne,hv⟩
 ·exact .inl h8
 ·right
  have E:xM cs p=x/\yM cs p=y:=by
   unfold xM yM Zl;rcases hxy with⟨B,rfl,rfl⟩|⟨B,rfl,rfl⟩
   ·rw[if_pos (by simpa using B)];exact⟨rfl,rfl⟩
   ·rw[if_neg (by simpa using B)];exact⟨rfl,rfl⟩
  rw[E.1,E.2];have S:=Q57 hne;refine⟨?_,he.symm,hv⟩;show 1<=Q1v _ _/\Q1v _ _<=7;rw[he];omega
theorem Qg0{cs:List Qb}{p:Wd}(bk:List Qr2)(J:∀i,i<cs.length->Yg (Qn cs i)=Bn)(h:Zx cs p=Bn)(K:(Zn bk cs p).2=0){n:Nat}(b:(Zn bk cs p).1<=n+Zm (Z4 cs p)):
  (1<=Z4 cs p/\Z4 cs p<=7)/\(Z4 cs p≠7->Qd5 (Z4 cs p) (xM cs p) (yM cs p) n):=by
 obtain⟨⟨q0,q1,c⟩,ka,kb⟩:=Q05 h;have L:Yg (Q7 cs p.1)=Bn:=J _ (by omega);have M:Yg (Q7 cs p.2)=Bn:=J _ (by omega);rcases Q5w J h with h8|⟨hr,he,hv⟩
 ·unfold Zn at K;rw[if_pos (by simpa using h8)]at K;simp at K
 ·refine⟨hr,λV=> ?_⟩
  have G:(Yg (xM cs p)=Bn/\J5 (aK (xM cs p))=Bn)/\(Yg (yM cs p)=Bn/\J5 (aK (yM cs p))=Bn):=by
   rcases Q3m cs p with⟨-,O,P⟩|⟨-,O,P⟩<;>rw[O,P]
   ·exact⟨⟨L,ka⟩,M,kb⟩
   ·exact⟨⟨M,kb⟩,L,ka⟩
  have H:=Q6y G.1.1 G.1.2;have E:=Q6y G.2.1 G.2.2;have S:=Q57 (ka:=aK (xM cs p)) (la:=aL (xM cs p)) (kb:=aK (yM cs p)) (lb:=aL (yM cs p)) (by rw[he];omega);rw[he]at S;rcases S with⟨B,C,F⟩|⟨B,C,F⟩|⟨B,C⟩|⟨B,C⟩|⟨B,C,F⟩|⟨B,C⟩|⟨B,C⟩
  ·rw[B]
   exact⟨λ_=>⟨H.1 (by omega),E.1 (by omega)⟩,λe=>absurd e (by decide),λe=>absurd e (by decide),λe=>absurd e (by decide),λe=>absurd e (by decide)⟩
  ·rw[B]
   exact⟨λ_=>⟨H.1 (by omega),E.1 (by omega)⟩,λe=>absurd e (by decide),λe=>absurd e (by decide),λe=>absurd e (by decide),λe=>absurd e (by decide)⟩
  ·have T:(Zn bk cs p).1=2+3 * ((aW (yM cs p)).length:Int):=by unfold Zn;rw[B];rfl
   have U:Zm (Z4 cs p)=2:=by rw[B];rfl
   rw[B];exact⟨λe=>absurd e (by decide),λ_=>⟨H.1 (by omega),by omega⟩,λe=>absurd e (by decide),λe=>absurd e (by decide),λe=>absurd e (by decide)⟩
  ·have T:(Zn bk cs p).1=((aW (yM cs p)).length:Int):=by unfold Zn;rw[B];rfl
   have U:Zm (Z4 cs p)=2:=by rw[B];rfl
   rw[B];exact⟨λe=>absurd e (by decide),λe=>absurd e (by decide),λ_=>by omega,λe=>absurd e (by decide),λe=>absurd e (by decide)⟩
  ·rw[B]
   exact⟨λe=>absurd e (by decide),λe=>absurd e (by decide),λe=>absurd e (by decide),λ_=>⟨λe=>⟨by have:=E.2.2.2.2.2.1 e;omega,by have:=E.2.1 (.inl e);omega⟩,λe=>by have:=E.1 (by omega);omega⟩,λe=>absurd e (by decide)⟩
  ·have T:(Zn bk cs p).1=1+((aW (xM cs p)).length:Int):=by unfold Zn;rw[B];rfl
   have U:Zm (Z4 cs p)=2:=by rw[B];rfl
   rw[B];refine⟨λe=>absurd e (by decide),λe=>absurd e (by decide),λe=>absurd e (by decide),λe=>absurd e (by decide),λ_=> ?_⟩;rcases C with⟨C,F⟩|⟨C,F⟩
   ·have W:=E.2.1 (by omega);have X:=E.2.2.2.2.2.2.2.1 F
    exact⟨by omega,by omega,by omega,by omega,by omega⟩
   ·have W:=E.2.1 (by omega);have X:=E.2.2.2.2.2.2.1 F;have Y:=H.2.2.2.2.2.2.2.2.1 C;have a:=hv C F
    exact⟨by omega,by omega,by omega,λ_=>⟨Y,a⟩,by omega⟩
  ·exact absurd B V
theorem Qaz{c:Qb}(h:Yg c=Bn):(aD c).length<=4/\(aW c).length<=3:=by
 by_cases B:J5 (aK c)=Bn
 ·have:=Q6y h B;omega
 ·unfold Yg at h
  split at h
  ·simp at h;simp[h]
  ·split at h
   ·simp at h;simp[h];omega
   ·simp only[Bl]at h;exact absurd h.1 B
theorem Qox{m:Qqp}(h:Zg (mC m) (Z3 (mC m)) (mF m)=Bn):∃l,Yf m l/\l.length=Z3 (mC m)/\∀i:Int,aK (Q7 (mC m) i)≠0->i.toNat∉l:=
 ⟨V4 (mC m) (Z3 (mC m)) (mF m),Jw.of_chain h,Q28 _ _ _,λi B C=>B (Qdj h C).2⟩
def Q1f(w:Bh)(cb o cap:Nat)(cs:List Qqb)(Fs:List (List Nat)):Prop:=
 ∃cur T,w.heap[cb]?=R (.cells cur T (0,0))/\cs.length<=cap/\cap<=Bp/\o+cap * 5<=cur.size/\Fs.length=cs.length/\(cb::Fs.flatten).Nodup/\
  ∀(i:Nat) (h:i<cs.length),Ow Qc w (Q25 cur (o+i * 5) 5) cs[i] (Fs.getD i [])
section
variable {w:Bh} {cb o cap:Nat} {cs:List Qqb} {Fs:List (List Nat)}
theorem Q1f.ow(h:Q1f w cb o cap cs Fs):Ow (.slice Qc) w [A (R ⟨cb,o,N⟩) cs.length cap] cs (cb::Fs.flatten):=by
 obtain⟨B,T,C,E,F,G,H,K,J⟩:=h;exact⟨_,rfl,.inr ⟨cb,o,cap,B,T,Fs,rfl,E,F,C,G,rfl,H,J⟩⟩
theorem Q1f.rd(h:Q1f w cb o cap cs Fs):Rd (.slice Qc) w [A (R ⟨cb,o,N⟩) cs.length cap] cs:=h.ow.rd
theorem Q1f.of_ow{v:Bk}{F:List Nat}(h:Ow (.slice Qc) w [v] cs F)(C:F.Nodup)(E:cs≠ []):∃cb o cap Fs,v=A (R ⟨cb,o,N⟩) cs.length cap/\F=cb::Fs.flatten/\Q1f w cb o cap cs Fs:=by
 obtain⟨G,H,h⟩:=h;obtain rfl:v=G:=by simpa using H
 rcases h with⟨J,_⟩|⟨b,o,cap,K,T,Fs,L,M,O,P,S,B,U,V⟩
 ·exact absurd J E
 ·exact⟨b,o,cap,Fs,L,B,K,T,P,M,O,S,U,B▸C,V⟩
theorem Q1f.blk(h:Q1f w cb o cap cs Fs):Qr4 w cb:=let ⟨cur,T,h1,_⟩:=h;⟨cur,T,h1⟩
theorem Q1f.nodup(h:Q1f w cb o cap cs Fs):(cb::Fs.flatten).Nodup:=let ⟨_,_,_,_,_,_,_,h6,_⟩:=h;h6
theorem Q1f.len(h:Q1f w cb o cap cs Fs):Fs.length=cs.length:=let ⟨_,_,_,_,_,_,h5,_⟩:=h;h5
theorem Q1f.lt(h:Q1f w cb o cap cs Fs):∀b∈cb::Fs.flatten,b<w.heap.size:=h.ow.lt
theorem Q1f.bound(h:Q1f w cb o cap cs Fs):cs.length<=cap/\cap<=Bp:=let ⟨_,_,_,h1,h2,_⟩:=h;⟨h1,h2⟩
theorem Q1f.cell(h:Q1f w cb o cap cs Fs)(i:Nat)(E:i<cs.length):∃us,us.length=5/\Qqw w cb (o+i * 5) us/\Ow Qc w us cs[i] (Fs.getD i []):=by
 obtain⟨B,T,F,H,J,K,L,M,G⟩:=h;have C:o+i * 5+5<=B.size:=by omega
 exact⟨Q25 B (o+i * 5) 5,Q1w C,Q58 F _ _ C,G i E⟩
theorem Q1f.frame{w':Bh}{X:Nat->Prop}(h:Q1f w cb o cap cs Fs)(k:Q1 X w w')(hX:∀b∈cb::Fs.flatten,¬X b):Q1f w' cb o cap cs Fs:=by
 have C:=h.lt;obtain⟨E,T,F,G,H,J,K,L,M⟩:=h;have B:∀b∈cb::Fs.flatten,w'.heap[b]?=w.heap[b]?:=λb B=>k.block b (C b B) (hX b B);exact⟨E,T,by rw[B cb Ae];exact F,G,H,J,K,L,λi O=>(M i O).kept λb P=>B b (Aa _ (Zu (by omega) P))⟩
end
theorem Q1f.turn{w w2:Bh}{cb o cap:Nat}{cs:List Qqb}{Fs:List (List Nat)}(h:Q1f w cb o cap cs Fs){i:Nat}(f:i<cs.length){us':List Bk}{y:Qqb}{G:List Nat}
  (g:Q1 (λc=>c=cb\/c∈Fs.getD i []) w w2) (l:Q9 cb (o+i * 5) 5 w w2) (m:Qqw w2 cb (o+i * 5) us') (W:Ow Qc w2 us' y G) (n:G.Nodup)
  (J:∀b∈G,b∈Fs.getD i []\/b∉cb::Fs.flatten):Q1f w2 cb o cap (cs.set i y) (Fs.set i G):=by
 have p:=h.lt;obtain⟨P,T,F,H,q,r,s,t,u⟩:=h;have K:=Ar.1 t;obtain⟨S,X,v,x⟩:=l P T F;have z:=W.length;have A1:us'.length=5:=z;have A2:o+i * 5+5<=P.size:=by omega
 have A0:=Dv.1 K.2;have Y:∀j,j<cs.length->j≠i->∀c∈Fs.getD j [],c∉Fs.getD i []:=by
  intro j B U c C a;have F:i<Fs.length:=by omega
  have H:j<Fs.length:=by omega
  have J:=List.pairwise_iff_getElem.1 A0.2;rcases Nat.lt_or_gt_of_ne U with h|h
  ·exact J j i H F h c (by rwa [Ab,Ad H]at C) c (by rwa [Ab,Ad F]at a) rfl
  ·exact J i j F H h c (by rwa [Ab,Ad F]at a) c (by rwa [Ab,Ad H]at C) rfl
 have L:∀j,j<cs.length->∀c∈Fs.getD j [],c∈Fs.flatten:=λj B c C=>Zu (by omega) C;refine⟨S,T,X,by rw[Br];exact H,q,by rw[v];exact r,by rw[Br,Br];exact s, ?_,λj B=> ?_⟩
 ·rw[Ar]
  refine⟨λM=> ?_,Q1y K.2 n λb hb j B U d=> ?_⟩
  ·rcases Yv M with M|⟨j,B,_,M⟩
   ·rcases J cb M with h|h
    ·exact K.1 (L i f cb h)
    ·exact h Ae
   ·exact K.1 (L j (by omega) cb M)
  ·rcases J b hb with h|h
   ·exact Y j (by omega) U b d h
   ·exact h (Aa _ (L j (by omega) b d))
 ·rw[Br]at B
  rw[Q8u (by omega)];by_cases O:i=j
  ·subst O
   rw[if_pos rfl];have V:Q25 S (o+i * 5) 5=us':=by
    apply Du;intro k;unfold Q25;rw[Cu];by_cases E:k<5
    ·rw[if_pos E,Ct,Array.getElem?_toList]
     have:=m k (by omega);simp only[World.cell?,X]at this;simp only[Option.isSome_none,Bool.false_eq_true,if_false]at this;rw[this,Ad (by omega)]
    ·rw[if_neg E,List.getElem?_eq_none (by omega)]
   rw[V];simpa using W
  ·rw[if_neg O,List.getElem_set_ne O]
   have V:Q25 S (o+j * 5) 5=Q25 P (o+j * 5) 5:=by
    apply Du;intro k;unfold Q25;rw[Cu,Cu];by_cases E:k<5
    ·rw[if_pos E,if_pos E,Ct,Ct,Array.getElem?_toList,Array.getElem?_toList]
     exact x _ (by omega)
    ·rw[if_neg E,if_neg E]
   rw[V];refine(u j B).kept λc C=>g.block c (p c (Aa _ (L j B c C))) ?_;rintro(e|e)
   ·exact K.1 (e▸L j B c C)
   ·exact Y j B (λe'=>O e'.symm) c C e
theorem Z8.redexes{w:Bh}{pb B:Nat}{m:Qqp}{S:MS}(h:Z8 w pb B m S):∃(px:Option Cm) (cx:Nat),w.cell? ⟨pb,B+4,N⟩=R (A px (mX m).length cx)/\Ow (.slice Q4) w [A px (mX m).length cx] (mX m) S.Fx:=by
 obtain⟨px,cx,_,_,_,_,C,_,_,_,E⟩:=h.head;exact⟨px,cx,C,E⟩
theorem Qn6(w:Bh)(pb C:Nat)(m:Qqp)(S:MS)(h:Z8 w pb C m S)(a b:Int)(ha:Qqm a)(B:Qqm b)(L:(mX m).length<=1000000):
  Bq prog 190 #[.pointer (R ⟨pb,C,N⟩),I Z a,I Z b] w λe w'=>e=.returned (.tuple #[])/\∃Fx,Z8 w' pb C (Yu m a b) {S with Fx:=Fx}/\(∀b∈Fx,b∈S.Fx\/w.heap.size<=b)/\Q1 (λc=>c=pb\/c∈S.Fx) w w'/\Q9 pb C 5 w w':=by
 have M:=qh h;obtain⟨px,cx,g,O⟩:=h.redexes;have P:=qh O;have i:=qh L;have j:D (S.Fx.Nodup):=qh ((Qqn (Ar.1 (Ar.1 h.nodup).2).2).2.1);have H:D (pb∉S.Fx):=qh (λe=>(Ar.1 h.nodup).1 (Aa _ (At0.2 (.inr e))));have k:=λq=>h.blk.free q;have T:=h.blk.lt;clear h O L;obtain⟨l,n,o,p,r⟩:=info_parts J4;go_enter func190,ntmps190;go_wp2_with fail
 go_region_law(first|(refine Q5e rfl 140 #[.tmp 11,.tmp 12] #[2,2] rfl #[I Z a,I Z b] (by kernel_rfl) _ (Qnx _ _ _) ?_)|(refine Q5e rfl 141 #[.tmp 14,.tmp 15] #[2,2] rfl #[I Z a,I Z b] (by kernel_rfl) _ (Qjv _ _ _) ?_)|(refine Y6 _ rfl (.tmp 10) (.tmp 18) 41 rfl (e:=Q4) 117 l _ 16 underlying41 n o p r rfl (by decide) (v:=A px (mX m).length cx) (xs:=mX m) (y:=(min a b,max a b)) (vs:=[I Z (min a b),I Z (max a b)]) (F:=S.Fx) w.heap.size 1 rfl rfl (P.o.kept λb B=>Az _ _ _ (P.o.lt b B)) j.o (Ow.word (by unfold Qqm at *;omega) (by unfold Qqm at *;omega)) (Q5g (Q8 (Bg w.drew _) rfl) (Q8 (Bg w.drew _) rfl)) Qj1 (by have:=i.o;omega) ?_;intro U V w2 J W X Y d;have f:=qh W;have s:=qh X;have t:=qh Y;have G:=qh (Q1.trans (show Q1 (λc=>c∈S.Fx) w _ by first|exact((Q1.refl _ w).drew).alloc _|exact((Q1.refl _ w).alloc _).drew) d);have u:=(G.o.cell T H.o (C+4)).trans g;have xf:=λq=>(G.o.frozen T H.o q).trans (k q);clear W X Y d))
 all_goals
  go_wp2_with fail
  go_end0
  have K:∀b∈J,b∈S.Fx\/w.heap.size<=b:=λb B=>(t.o b B).imp id λe=>by rw[e];simp
  have x:=M.o.lt;have z:∀b∈J,b≠pb:=λb B e=>(K b B).elim (λh=>H.o (e▸h)) λh=>by omega
  have f3:=Ze w2 pb (C+4) (A U ((mX m).length+1) V);refine⟨rfl,J,(M.o.turnX (xs:=mX m++ [(min a b,max a b)]) (px:=U) (cx:=V) (Fx:=J) ((G.o.mono λc E=> .inr E).trans (f3.mono λc E=> .inl E)) ((Q9.of_frame G.o H.o _ _).set (C+4) (by omega) _) ?_ ?_ s.o λb B=> ?_),λb B=> ?_,(G.o.mono λc E=> .inr E).trans (f3.mono λc E=> .inl E),(Q9.of_frame G.o H.o C 5).set (C+4) (by omega) _⟩
  ·rw[Bo];exact World.cell?_setCell_same _ _ _ u
  ·have:=f.o.frame f3 λb B=>⟨f.o.lt b B,z b B⟩
   rw[Bo];exact this
  ·refine(K b B).imp id λh hm=> ?_
   have:=x b hm;omega
  ·exact K b B
def Q49(t:Ty)(w:Bh)(b o:Nat)(x:t.den)(G:List Nat):Prop:=∃us,us.length=t.sz/\Qqw w b o us/\Ow t w us x G/\b<w.heap.size
theorem Q49.at{t:Ty}{w:Bh}{b o:Nat}{x:t.den}{G:List Nat}(h:Q49 t w b o x G):At t w b o x:=let ⟨us,h1,h2,h3,_⟩:=h;⟨us,h1,h2,h3.rd⟩
theorem Q49.lt{t:Ty}{w:Bh}{b o:Nat}{x:t.den}{G:List Nat}(h:Q49 t w b o x G):∀c∈b::G,c<w.heap.size:=by
 obtain⟨us,F,H,C,E⟩:=h;intro c B;rcases Aq.1 B with rfl|B
 ·exact E
 ·exact C.lt c B
theorem Q49.frame{t:Ty}{w w':Bh}{b o:Nat}{x:t.den}{G:List Nat}{X:Nat->Prop}(h:Q49 t w b o x G)(k:Q1 X w w')(hX:∀c∈b::G,¬X c):Q49 t w' b o x G:=by
 have E:=h.lt;obtain⟨us,F,H,J,B⟩:=h;exact⟨us,F,H.frame B k (hX b Ae),J.frame k λc C=>⟨E c (Aa _ C),hX c (Aa _ C)⟩,Ap B k.size⟩
def Q8i(G:List Nat)(pb:Nat)(S:MS):Prop:=∀b∈G,b∉pb::S.all
theorem Q19{c:Nat}{S:MS}(e:c=S.cb):c∈S.all:=by rw[e];exact Ae
structure Qk (w0:Bh) (S0:MS) (pb po:Nat) (w:Bh) (m:Qqp) (S:MS) (l:List Nat):Prop where
 mem:Z8 w pb po m S
 free:Yf m l
 fresh:Q3f w0 S0 S
 fr:Q1 (λc=>c=pb\/c∈S0.all) w0 w
 pl:pb<w0.heap.size
 keep:Q9 pb po 5 w0 w
theorem Qk.start{w:Bh}{pb po:Nat}{m:Qqp}{S:MS}{l:List Nat}(h:Z8 w pb po m S)(B:Yf m l):Qk w S pb po w m S l:=
 ⟨h,B,Q3f.refl _ _,Q1.refl _ _,h.blk.lt,Q9.refl _ _ _ _⟩
section
variable {w0 w w':Bh} {S0 S S':MS} {pb po:Nat} {m m':Qqp} {l l':List Nat}
theorem Qk.size(h:Qk w0 S0 pb po w m S l):w0.heap.size<=w.heap.size:=h.fr.size
theorem Qk.cb(h:Qk w0 S0 pb po w m S l):S.cb=S0.cb:=h.fresh.1
theorem Qk.step(h:Qk w0 S0 pb po w m S l)(E:Z8 w' pb po m' S')(F:Yf m' l')(G:Q3f w S S')(B:Q1 (λc=>c=pb\/c∈S.all) w w')(H:Q9 pb po 5 w w'):Qk w0 S0 pb po w' m' S' l':=by
 refine⟨E,F,h.fresh.trans G h.fr.size,⟨B.os.trans h.fr.os,B.tape.trans h.fr.tape,B.output.trans h.fr.output,Au h.fr.size B.size,λb C hX=> ?_⟩,h.pl,h.keep.trans H⟩;rw[B.block b (Ap C h.fr.size) (λJ=>hX ?_)]
 ·exact h.fr.block b C hX
 ·rcases J with e|e
  ·exact .inl e
  ·rcases h.fresh.2.2.2 b e with e|e
   ·exact .inr e
   ·omega
theorem Qk.other{Y:Nat->Prop}(h:Qk w0 S0 pb po w m S l)(B:Q1 Y w w')(E:∀c,Y c->c∉pb::S.all/\w0.heap.size<=c):Qk w0 S0 pb po w' m S l:=
 ⟨h.mem.frame B λb C F=>(E b F).1 C,h.free,h.fresh,⟨B.os.trans h.fr.os,B.tape.trans h.fr.tape,B.output.trans h.fr.output,Au h.fr.size B.size,λb C hX=>by rw[B.block b (Ap C h.fr.size) (λF=>by have:=(E b F).2;omega)];exact h.fr.block b C hX⟩,h.pl,h.keep.fr B λe=>(E pb e).1 Ae⟩
theorem Qk.below(h:Qk w0 S0 pb po w m S l)(B:Below w.heap.size w w'):Qk w0 S0 pb po w' m S l:=h.other (Y:=λ_=>False) (Ay B) (λ_ h=>h.elim)
theorem Qk.drew(h:Qk w0 S0 pb po w m S l):Qk w0 S0 pb po w.drew m S l:=h.other (Y:=λ_=>False) (Q1.refl _ _).drew (λ_ h=>h.elim)
theorem Qk.cell{b:Nat}(h:Qk w0 S0 pb po w m S l)(B:b<w0.heap.size)(C:b∉pb::S0.all)(q:Nat):w.cell? ⟨b,q,N⟩=w0.cell? ⟨b,q,N⟩:=
 h.fr.cell B (λe=>C (e.elim (λe=>e▸Ae) λe=>Aa _ e)) q
theorem Qk.first{a:Nat}(h:Qk w0 S0 pb po w m S (a::l))(y:Qb):mF m=(a:Int)/\a<(mC m).length/\Yf (Qj m y) l:=let ⟨h1,h2,h3⟩:=h.free.take y;⟨h2,h3,h1⟩
end
theorem Q4v{w0 w:Bh}{S0 S:MS}{pb po a:Nat}{m:Qqp}{l:List Nat}(h:Qk w0 S0 pb po w m S (a::l))(k C v:Int)(E F:Option Cm)(H J K L:Nat)(y:Qb)(G:List Nat)
  (P:Ow Q3 w [I Z k,I Z C,I Z v,A E H J,A F K L] y G) (T:G.Nodup) (U:∀b∈G,b∉pb::S.all) (V:∀b∈G,w0.heap.size<=b):
  Bq prog 192 #[.pointer (R ⟨pb,po,N⟩),.agg #[I Z k,I Z C,I Z v,A E H J,A F K L]] w λe w'=>e=.returned (I Z a)/\Qk w0 S0 pb po w' (Qj m y) (S.put a G) l/\Q1 (λc=>c=pb\/c=S0.cb) w w':=by
 obtain⟨W,f,X⟩:=h.first y;refine(Qjt w pb po m S h.mem k C v E F H J K L y G (by omega) (by omega) P T U).mono ?_;rintro e w' ⟨rfl,O,M,Y⟩;rw[W]at O⊢;rw[h.cb]at M;refine⟨rfl,⟨O,X,⟨h.fresh.1,h.fresh.2.1,h.fresh.2.2.1,λb B=> ?_⟩, ?_,h.pl,h.keep.trans Y⟩,M⟩
 ·rcases Zf B with B|B
  ·exact .inr (V b B)
  ·exact h.fresh.2.2.2 b B
 ·exact h.fr.trans (M.mono λc d=>d.imp id Q19)
theorem Q9s{w0 w:Bh}{S0 S:MS}{pb po a:Nat}{m:Qqp}{l:List Nat}(h:Qk w0 S0 pb po w m S (a::l)):
  Bq prog 225 #[.pointer (R ⟨pb,po,N⟩)] w λe w'=>e=.returned (.agg #[I Z 2,I Z a])/\Qk w0 S0 pb po w' (Qv m) (S.put a []) l/\Q1 (λc=>c=pb\/c=S0.cb) w w':=by
 obtain⟨F,K,G⟩:=h.first Z5;refine(Qlh w pb po m S h.mem (by omega) (by omega)).mono ?_;rintro e w' ⟨rfl,E,C,H⟩;rw[F]at E⊢;rw[h.cb]at C;refine⟨rfl,⟨E,G,⟨h.fresh.1,h.fresh.2.1,h.fresh.2.2.1,λb B=> ?_⟩, ?_,h.pl,h.keep.trans H⟩,C⟩
 ·rcases Zf B with B|B
  ·simp at B
  ·exact h.fresh.2.2.2 b B
 ·exact h.fr.trans (C.mono λc J=>J.imp id Q19)
theorem Q7j{w0 w:Bh}{S0 S:MS}{pb po:Nat}{m:Qqp}{l:List Nat}(h:Qk w0 S0 pb po w m S l)(i:Int)(E:0<=i)(F:i<(mC m).length)(G:i.toNat∉l):
  Bq prog 139 #[.pointer (R ⟨pb,po,N⟩),I Z i] w λe w'=>e=.returned (.tuple #[])/\Qk w0 S0 pb po w' (Qg m i) (S.put i []) (i.toNat::l)/\Q1 (λc=>c=pb\/c=S0.cb) w w':=by
 refine(Q7i w pb po m S h.mem i E F).mono ?_;rintro e w' ⟨rfl,H,C,J⟩;rw[h.cb]at C;refine⟨rfl,⟨H,h.free.release E F G,⟨h.fresh.1,h.fresh.2.1,h.fresh.2.2.1,λb B=> ?_⟩, ?_,h.pl,h.keep.trans J⟩,C⟩
 ·rcases Zf B with B|B
  ·simp at B
  ·exact h.fresh.2.2.2 b B
 ·exact h.fr.trans (C.mono λc K=>K.imp id Q19)
theorem Qa7{m:Qqp}{a b:Int}{l:List Nat}(h:Yf m l):Yf (Yu m a b) l:=h
theorem Qcm{w0 w:Bh}{S0 S:MS}{pb po:Nat}{m:Qqp}{l:List Nat}(h:Qk w0 S0 pb po w m S l)(a b:Int)(F:Qqm a)(G:Qqm b)(H:(mX m).length<=1000000):
  Bq prog 190 #[.pointer (R ⟨pb,po,N⟩),I Z a,I Z b] w λe w'=>e=.returned (.tuple #[])/\∃S',Qk w0 S0 pb po w' (Yu m a b) S' l/\Q3f w S S'/\Q1 (λc=>c=pb\/c∈S.Fx) w w':=by
 refine(Qn6 w pb po m S h.mem a b F G H).mono ?_;rintro e w' ⟨rfl,Fx,J,K,C,L⟩;have E:Q3f w S {S with Fx:=Fx}:=⟨rfl,rfl,rfl,λc B=>by
  unfold MS.all at B⊢;simp only[List.mem_cons,List.mem_append]at B⊢;rcases B with B|B|B
  ·exact .inl (.inl B)
  ·exact .inl (.inr (.inl B))
  ·exact(K c B).imp (λh=> .inr (.inr h)) id⟩
 refine⟨rfl, {S with Fx:=Fx},h.step J (Qa7 h.free) E (C.mono λc B=>B.imp id λe=> ?_) L,E,C⟩;unfold MS.all;simp only[List.mem_cons,List.mem_append];exact .inr (.inr e)
theorem Qft{B:List (List Nat)}{i:Nat}(h:B.flatten.Nodup)(C:i<B.length):(B.getD i []).Nodup:=by
 have:=(Dv.1 h).1 (B.getD i []) (by rw[Ab,Ad C];exact As C);exact this
theorem Z8.focusW{w:Bh}{pb W:Nat}{m:Qqp}{S:MS}(h:Z8 w pb W m S){i:Int}(X:i.toNat<(mC m).length):
  ∃(J:Option Cm) (K:Nat) (E C:List Nat),w.cell? ⟨S.cb,S.o+i.toNat * 5+4,N⟩=R (A J (aW (Q7 (mC m) i)).length K)/\Ow (.slice Q4) w [A J (aW (Q7 (mC m) i)).length K] (aW (Q7 (mC m) i)) C/\C.Nodup/\(∀b∈E++C,b∈S.all/\b≠pb/\b≠S.cb)/\
   ∀(w2:Bh) (p:Option Cm) (n c:Nat) (F:List Wd) (G:List Nat),Q1 (λb=>b∈C) w w2->Ow (.slice Q4) w2 [A p n c] F G->n=F.length->G.Nodup->(∀b∈G,b∈C\/b∉pb::S.all)->
    Z8 (w2.setCell ⟨S.cb,S.o+i.toNat * 5+4,N⟩ (A p n c)) pb W (Qa m i F) (S.put i (E++G)):=by
 obtain⟨us,A6,u,v⟩:=h.cell X;obtain⟨Y,d,J,K,E,C,rfl,L,P,x,y,z,i3⟩:=v.agent;obtain⟨u0,u1,u2,u3,f⟩:=Q4b u;have g:=Ar.1 h.nodup;have j:S.cb∉S.Fs.flatten++S.Fx/\(S.Fs.flatten++S.Fx).Nodup:=Ar.1 g.2;have A7:=h.cells.len;have l:i.toNat<S.Fs.length:=by omega
 have M:(E++C).Nodup:=L▸Qft (Qqn j.2).1 l;have r:∀b∈E++C,b∈S.Fs.flatten:=λb B=>Zu l (L▸B);have T:∀b∈E++C,b∈S.all:=λb B=>Aa _ (Ag _ (r b B));have A0:∀b∈E++C,b≠pb:=λb B e=>g.1 (e▸T b B);have O:∀b∈E++C,b≠S.cb:=λb B e=>j.1 (e▸Ag _ (r b B));refine⟨J,K,E,C,f,x,(Qqn M).2.1,λb B=>⟨T b B,A0 b B,O b B⟩,λw2 p n c F G H s hn A1 U=> ?_⟩;subst hn;have V:S.cb∉C:=λe=>O _ (Af _ e) rfl;have t:=h.cells.blk.lt;have f3:=Ze w2 S.cb (S.o+i.toNat * 5+4) (A p F.length c);have A2:w2.cell? ⟨S.cb,S.o+i.toNat * 5+4,N⟩=R (A J (aW (Q7 (mC m) i)).length K):=(H.cell t V _).trans f;have A3:∀b∈G,b≠S.cb:=λb B e=>(U b B).elim (λh=>O b (Af _ h) e) λh=>h (e▸Aa _ Ae);have A4:∀b∈E,b∉G:=λb B hg=>(U b hg).elim (λh=>(Qqn M).2.2 b B h) λh=>h (Aa _ (T b (Ag _ B)))
 refine h.turnC X (us':=[I Z (aK (Q7 (mC m) i)),I Z (aL (Q7 (mC m) i)),I Z (aV (Q7 (mC m) i)),A Y (aD (Q7 (mC m) i)).length d,A p F.length c]) ((H.mono λb B=> .inr (by rw[L];exact Af _ B)).trans (f3.mono λb B=> .inl B))
  ((Q9.of_frame H V _ _).set (S.o+i.toNat * 5+4) (by omega) _) ?_ ?_ ?_ λb B=> ?_
 ·have k:∀q,q≠S.o+i.toNat * 5+4->(w2.setCell ⟨S.cb,S.o+i.toNat * 5+4,N⟩ (A p F.length c)).cell? ⟨S.cb,q,N⟩=w.cell? ⟨S.cb,q,N⟩:=λq hq=>by
   rw[World.cell?_setCell_other _ _ _ _ (by intro e;simp only[Addr.mk.injEq,and_true,true_and]at e;omega)];exact H.cell t V q
  exact Q11 ((k _ (by omega)).trans u0) ((k _ (by omega)).trans u1) ((k _ (by omega)).trans u2) ((k _ (by omega)).trans u3) (World.cell?_setCell_same _ _ _ A2)
 ·have A5:Ow (.slice .int) (w2.setCell ⟨S.cb,S.o+i.toNat * 5+4,N⟩ (A p F.length c)) [A Y (aD (Q7 (mC m) i)).length d] (aD (Q7 (mC m) i)) E:=
   (P.frame H λb B=>⟨P.lt b B,λe=>(Qqn M).2.2 b B e⟩).frame f3 λb B=>⟨Ap (P.lt b B) H.size,O b (Ag _ B)⟩
  exact Ow.mkAgent y z i3 A5 (s.frame f3 λb B=>⟨s.lt b B,A3 b B⟩)
 ·rw[Ba]
  exact⟨(Qqn M).1,A1,λa ha b B e=>A4 a ha (e▸B)⟩
 ·rcases At0.1 B with B|B
  ·exact .inl (by rw[L];exact Ag _ B)
  ·exact(U b B).imp (λh=>by rw[L];exact Af _ h) id
theorem Q6m{m:Qqp}{i:Int}{ws:List Wd}{l:List Nat}(h:Yf m l)(B:i.toNat∉l):Yf (Qa m i ws) l:=h.put _ B
theorem Qk.focusW{O w:Bh}{P S:MS}{pb L:Nat}{m:Qqp}{l:List Nat}(h:Qk O P pb L w m S l){i:Int}(W:i.toNat<(mC m).length)(X:i.toNat∉l):
  ∃(H:Option Cm) (J:Nat) (F E:List Nat),w.cell? ⟨S.cb,S.o+i.toNat * 5+4,N⟩=R (A H (aW (Q7 (mC m) i)).length J)/\Ow (.slice Q4) w [A H (aW (Q7 (mC m) i)).length J] (aW (Q7 (mC m) i)) E/\E.Nodup/\(∀b∈F++E,b∈S.all/\b≠pb/\b≠S.cb)/\
   ∀(w2:Bh) (p:Option Cm) (n c:Nat) (G:List Wd) (C:List Nat),Q1 (λb=>b∈E) w w2->Ow (.slice Q4) w2 [A p n c] G C->n=G.length->C.Nodup->(∀b∈C,b∈E\/w.heap.size<=b)->
    Qk O P pb L (w2.setCell ⟨S.cb,S.o+i.toNat * 5+4,N⟩ (A p n c)) (Qa m i G) (S.put i (F++C)) l/\Q3f w S (S.put i (F++C))/\Q1 (λc=>c∈S.all) w (w2.setCell ⟨S.cb,S.o+i.toNat * 5+4,N⟩ (A p n c)):=by
 obtain⟨H,J,F,E,Y,a,d,K,e⟩:=h.mem.focusW W;refine⟨H,J,F,E,Y,a,d,K,λw2 p n c G C T f g j U=> ?_⟩;have k:=h.mem.lt;have V:Q3f w S (S.put i (F++C)):=Q3f.put λb B=>by
  rcases At0.1 B with B|B
  ·exact .inl (K b (Ag _ B)).1
  ·exact(U b B).imp (λh=>(K b (Af _ h)).1) id
 have M:Q1 (λc=>c∈S.all) w (w2.setCell ⟨S.cb,S.o+i.toNat * 5+4,N⟩ (A p n c)):=
  (T.mono λb B=>(K b (Af _ B)).1).trans ((Ze w2 S.cb _ _).mono λb B=>Q19 B)
 exact⟨h.step (e w2 p n c G C T f g j λb B=>(U b B).imp id λh q=>by have:=k b q;omega) (Q6m h.free X) V (M.mono λc r=> .inr r) (Q9.of_frame M (Ar.1 h.mem.nodup).1 L 5),V,M⟩
theorem Qk.focusN{G w:Bh}{H S:MS}{pb J:Nat}{m:Qqp}{l:List Nat}(h:Qk G H pb J w m S l){i:Nat}(M:i<(mC m).length)(O:i∉l):
  ∃(K:Option Cm) (L:Nat) (E B:List Nat),w.cell? ⟨S.cb,S.o+i * 5+4,N⟩=R (A K (aW (Q7 (mC m) (i:Int))).length L)/\Ow (.slice Q4) w [A K (aW (Q7 (mC m) (i:Int))).length L] (aW (Q7 (mC m) (i:Int))) B/\B.Nodup/\(∀b∈E++B,b∈S.all/\b≠pb/\b≠S.cb)/\
   ∀(w2:Bh) (p:Option Cm) (n c:Nat) (F:List Wd) (C:List Nat),Q1 (λb=>b∈B) w w2->Ow (.slice Q4) w2 [A p n c] F C->n=F.length->C.Nodup->(∀b∈C,b∈B\/w.heap.size<=b)->
    Qk G H pb J (w2.setCell ⟨S.cb,S.o+i * 5+4,N⟩ (A p n c)) (Qa m (i:Int) F) (S.put (i:Int) (E++C)) l/\Q3f w S (S.put (i:Int) (E++C))/\Q1 (λc=>c∈S.all) w (w2.setCell ⟨S.cb,S.o+i * 5+4,N⟩ (A p n c)):=
 h.focusW (i:=(i:Int)) M O
theorem Q8w{w:Bh}{g:Nat}{T:TypeId}{a b c d:Int}(h:w.heap[g]?=R (.cells #[I Z a,I Z b,I Z c,I Z d] T (0,0)))(B:Qqm a)(C:Qqm b)(E:Qqm c)(F:Qqm d):Ow (.slice Q4) w [A (R ⟨g,0,N⟩) 2 2] [(a,b),(c,d)] [g]:=
 ⟨_,rfl,.inr ⟨g,0,2,_,T,[[],[]],rfl,Aj _,by simp[Bp],h,by simp[Ty.sz],by simp,rfl,λi G=>by
  match i,G with
  |0,_=>exact Ow.word B C
  |1,_=>exact Ow.word E F⟩⟩
theorem Qf{X:Nat->Prop}{w W:Bh}(E:Q1 X w W){B q1:Nat}{v1:Bk}(C:w.cell? ⟨B,q1,N⟩=R v1)(F:¬X B):W.cell? ⟨B,q1,N⟩=R v1:=
 (E.cell (Ac w ⟨B,q1,N⟩ C) F q1).trans C
theorem Q9e{X:Nat->Prop}{w W:Bh}(B:Q1 X w W){C q1 E G F H:Nat}{v1 J K:Bk}(L:w.cell? ⟨C,q1,N⟩=R v1)(M:w.cell? ⟨E,G,N⟩=R J)(O:w.cell? ⟨F,H,N⟩=R K)(P:¬X C)(S:¬X E)(T:¬X F):
  W.cell? ⟨C,q1,N⟩=R v1/\W.cell? ⟨E,G,N⟩=R J/\W.cell? ⟨F,H,N⟩=R K:=⟨Qf B L P,Qf B M S,Qf B O T⟩
theorem Q4w{X:Nat->Prop}{w W:Bh}(B:Q1 X w W){C q1 E J F K G L H M:Nat}{v1 O P S T:Bk}(U:w.cell? ⟨C,q1,N⟩=R v1)(V:w.cell? ⟨E,J,N⟩=R O)(Y:w.cell? ⟨F,K,N⟩=R P)(a:w.cell? ⟨G,L,N⟩=R S)(b:w.cell? ⟨H,M,N⟩=R T)
  (c:¬X C) (d:¬X E) (e:¬X F) (f:¬X G) (g:¬X H):W.cell? ⟨C,q1,N⟩=R v1/\W.cell? ⟨E,J,N⟩=R O/\W.cell? ⟨F,K,N⟩=R P/\W.cell? ⟨G,L,N⟩=R S/\W.cell? ⟨H,M,N⟩=R T:=
 ⟨Qf B U c,Qf B V d,Qf B Y e,Qf B a f,Qf B b g⟩
def Y9(w0:Bh)(S:MS)(w:Bh)(v:Bk)(xs:List Qqt):Prop:=∃F,Ow (.slice Qu) w [v] xs F/\F.Nodup/\∀b∈F,w0.heap.size<=b/\b∉S.all
theorem Y9.step{C w w':Bh}{S S':MS}{v:Bk}{xs:List Qqt}{X:Nat->Prop}(h:Y9 C S w v xs)(k:Q1 X w w')(hX:∀c,X c->c<C.heap.size\/c∈S.all)(E:∀b∈S'.all,b∈S.all\/w.heap.size<=b):Y9 C S' w' v xs:=by
 obtain⟨F,o,n,r⟩:=h;refine⟨F,o.frame k λb B=>⟨o.lt b B,λe=> ?_⟩,n,λb B=>⟨(r b B).1,λG=> ?_⟩⟩
 ·have:=(r b B).1
  rcases hX b e with h|h
  ·omega
  ·exact(r b B).2 h
 ·rcases E b G with h|h
  ·exact(r b B).2 h
  ·have:=o.lt b B;omega
theorem Y9.form{B w:Bh}{S:MS}{v:Bk}{xs:List Qqt}(h:Y9 B S w v xs):∃(p:Option Cm) (c:Nat),v=A p xs.length c:=let ⟨_,o,_⟩:=h;o.slice_form
theorem Y9.ofOwn{C w:Bh}{S:MS}{v:Bk}{xs:List Qqt}{B:Nat}(h:Qqe Qu 120 B w v xs)(G:C.heap.size<=B)(H:∀b∈S.all,b<B):Y9 C S w v xs:=by
 obtain⟨F,o,n,r⟩:=h.ow rfl;exact⟨F,o,n,λb E=>⟨Au G (r b E).1,λJ=>by have:=(r b E).1;have:=H b J;omega⟩⟩
theorem Qk7{X:Nat->Prop}{w W:Bh}(B:Q1 X w W){C q1 E L F M G O H P J S K T:Nat}{v1 U V Y a b c:Bk}(d:w.cell? ⟨C,q1,N⟩=R v1)(e:w.cell? ⟨E,L,N⟩=R U)(f:w.cell? ⟨F,M,N⟩=R V)(g:w.cell? ⟨G,O,N⟩=R Y)(h:w.cell? ⟨H,P,N⟩=R a)(i:w.cell? ⟨J,S,N⟩=R b)(j:w.cell? ⟨K,T,N⟩=R c)
  (k:¬X C) (l:¬X E) (m:¬X F) (n:¬X G) (o:¬X H) (p:¬X J) (q:¬X K):W.cell? ⟨C,q1,N⟩=R v1/\W.cell? ⟨E,L,N⟩=R U/\W.cell? ⟨F,M,N⟩=R V/\W.cell? ⟨G,O,N⟩=R Y/\W.cell? ⟨H,P,N⟩=R a/\W.cell? ⟨J,S,N⟩=R b/\W.cell? ⟨K,T,N⟩=R c:=
 ⟨Qf B d k,Qf B e l,Qf B f m,Qf B g n,Qf B h o,Qf B i p,Qf B j q⟩
def Yy(e:Ty)(w0:Bh)(S:MS)(w:Bh)(v:Bk)(xs:List e.den):Prop:=∃F,Ow (.slice e) w [v] xs F/\F.Nodup/\∀b∈F,w0.heap.size<=b/\b∉S.all
theorem Yy.step{e:Ty}{C w w':Bh}{S S':MS}{v:Bk}{xs:List e.den}{X:Nat->Prop}(h:Yy e C S w v xs)(k:Q1 X w w')(hX:∀c,X c->c<C.heap.size\/c∈S.all)(E:∀b∈S'.all,b∈S.all\/w.heap.size<=b):Yy e C S' w' v xs:=by
 obtain⟨F,o,n,r⟩:=h;refine⟨F,o.frame k λb B=>⟨o.lt b B,λe=> ?_⟩,n,λb B=>⟨(r b B).1,λG=> ?_⟩⟩
 ·have:=(r b B).1
  rcases hX b e with h|h
  ·omega
  ·exact(r b B).2 h
 ·rcases E b G with h|h
  ·exact(r b B).2 h
  ·have:=o.lt b B;omega
theorem Yy.form{e:Ty}{B w:Bh}{S:MS}{v:Bk}{xs:List e.den}(h:Yy e B S w v xs):∃(p:Option Cm) (c:Nat),v=A p xs.length c:=let ⟨_,o,_⟩:=h;o.slice_form
theorem Yy.ofOwn{e:Ty}{T:TypeId}{C w:Bh}{S:MS}{v:Bk}{xs:List e.den}{B:Nat}(h:Qqe e T B w v xs)(G:e.flat=Bn)(H:C.heap.size<=B)(J:∀b∈S.all,b<B):Yy e C S w v xs:=by
 obtain⟨F,o,n,r⟩:=h.ow G;exact⟨F,o,n,λb E=>⟨Au H (r b E).1,λK=>by have:=(r b E).1;have:=J b K;omega⟩⟩
theorem Yy.rd{e:Ty}{B w:Bh}{S:MS}{v:Bk}{xs:List e.den}(h:Yy e B S w v xs):Rd (.slice e) w [v] xs:=let ⟨_,o,_⟩:=h;o.rd
theorem Q49.facts{w:Bh}{pb:Nat}{S:MS}{b o:Nat}{k l v:Int}{d:List Int}{ws:List Wd}{G:List Nat}(h:Q49 Q3 w b o (k,l,v,d,ws) G)(O:Q8i (b::G) pb S):
  ∃(C:Option Cm) (E:Nat) (F:Option Cm) (H:Nat),(Qqm k/\Qqm l/\Qqm v)/\d.length<=Bp/\ws.length<=Bp/\∀W,Q1 (λc=>c=pb\/c∈S.all) w W->
   (W.cell? ⟨b,o,N⟩=R (I Z k)/\W.cell? ⟨b,o+1,N⟩=R (I Z l)/\W.cell? ⟨b,o+2,N⟩=R (I Z v)/\W.cell? ⟨b,o+3,N⟩=R (A C d.length E)/\W.cell? ⟨b,o+4,N⟩=R (A F ws.length H))/\
   Rd (.slice .int) W [A C d.length E] d/\Rd (.slice Q4) W [A F ws.length H] ws:=by
 obtain⟨us,g,P,T,U⟩:=h;obtain⟨C,E,F,H,V,X,rfl,rfl,J,K,Y,a,f⟩:=T.agent;have L:∀c∈b::(V++X),¬(c=pb\/c∈S.all):=λc B e=>O c B (e.elim (λe=>e▸Ae) (Aa _));refine⟨C,E,F,H,⟨Y,a,f⟩,J.gen.choose_spec.choose_spec.2,K.gen.choose_spec.choose_spec.2,λW M=>⟨Q4b (P.frame U M (L b Ae)),(J.frame M λc B=>⟨J.lt c B,L c (Aa _ (Ag _ B))⟩).rd,(K.frame M λc B=>⟨K.lt c B,L c (Aa _ (Af _ B))⟩).rd⟩⟩
theorem Ow.block0{e:Ty}{w:Bh}{p:Option Cm}{n c:Nat}{xs:List e.den}{F:List Nat}(h:Ow (.slice e) w [A p n c] xs F){b o:Nat}(B:p=R ⟨b,o,N⟩)(C:xs≠ []):b∈F:=by
 obtain⟨v,E,h⟩:=h;rcases h with⟨h,_⟩|⟨J,o',K,L,T,M,G,_,_,_,_,H,_⟩
 ·exact absurd h C
 ·have:(A p n c)=v:=by simpa using E
  rw[G]at this;simp only[Value.slice.injEq]at this;rw[B]at this;simp only[Option.some.injEq,Addr.mk.injEq,and_true]at this;rw[H,this.1.1];exact Ae
theorem Q1k(m:Qqp)(i:Int)(ws:List Wd):(mC (Qa m i ws)).length=(mC m).length:=Q0o m i _
end Go.Proofs.YthbpkpnioaniiaaGreat
