import Derived.WalkSpells
import Derived.WalkLawsBesides
import Derived.StillTailTactics
import Derived.BigQuiet
import Derived.Handy
import Derived.Lib.Hide
import Derived.Test.YthbpkpnioaniiaaGreatRows
set_option maxHeartbeats 40000000
set_option maxRecDepth 100000
set_option linter.all false
namespace Go.Proofs.YthbpkpnioaniiaaGreat
open Go.RowKit Go.Proofs.Tryz
open Go.Value renaming int->I,slice->A
open Go.IntKind renaming i64->Z
open Option renaming none->N,some->R
def D(p:Prop):Prop:=p
theorem D.o{p:Prop}(h:D p):p:=h
theorem qh{p:Prop}(h:p):D p:=h
abbrev Aa:=@List.mem_cons_of_mem
abbrev Ab:=@List.getD_eq_getElem?_getD
abbrev Ac:=@World.block_lt_of_cell?
abbrev Ad:=@List.getElem?_eq_getElem
abbrev Ae:=@List.mem_cons_self
abbrev Af:=@List.mem_append_right
abbrev Ag:=@List.mem_append_left
abbrev Ai:=@Below.refl
abbrev Aj:=@Nat.le_refl
abbrev Ak:=@Nat.zero_le
abbrev Al:=@Array.getElem?_eq_some_iff
abbrev An:=@List.take_succ_eq_append_getElem
abbrev Ao:=@List.take_of_length_le
abbrev Ap:=@Nat.lt_of_lt_of_le
abbrev Aq:=@List.mem_cons
abbrev Ar:=@List.nodup_cons
abbrev As:=@List.getElem_mem
abbrev At0:=@List.mem_append
abbrev Au:=@Nat.le_trans
abbrev Av:=@List.mem_iff_getElem
abbrev Az:=@Below.heap_alloc
abbrev Ba:=@List.nodup_append
abbrev Bb:=@List.mem_singleton
abbrev Bc:=@List.length_pos_iff
abbrev Bd:=@Nat.mul_le_mul_right
abbrev Be:=@World.size_alloc
abbrev Bf:=@List.all_eq_true
open Bool renaming true->Bn,false->Bm,and_eq_true->Bl
open Go renaming World->Bh,Value->Bk,maxLen->Bp,Addr->Cm,TypeId->Cf,Program->Eq,Calls->Bq,info_parts->Ch
open Go.Lib renaming run_eql_slice_nil->Dg
open Go.RowKit renaming Below->Bi,intOf->Bv
open Go.Value renaming ownBlock->Di,agg->Cz
open Go.World renaming setCell->Ft,cell?->Er,ownsRow_made->Fi
open List renaming length->Bx,map_append->Ff,sum_append_nat->Hy,take_append_drop->Et,findIdx?_eq_some_iff_getElem->Ih,mem_flatten->Ht,length_cons->Bs,ext_getElem?->Du,getElem?_take->Cu,getElem?_drop->Ct,getElem?_eq_none->El,getElem?_append_right->Em,flatten_append->Gf,foldl_cons->Ce,nil_append->Bt,append_assoc->Dd,length_append->Bo,length_take->Cj,append_nil->Co,length_set->Br,flatMap_cons->Gq,getElem?_eq_some_iff->Ef,replicate->Cl,cons_append->Cc
open Nat renaming not_lt_zero->Da,succ_mul->Dq,zero_add->Cd,sub_self->Gp,lt_or_gt_of_ne->En
inductive Ty where
 |int|bool
 |pair (a b:Ty)
 |slice (e:Ty)
@[reducible] def Ty.den:Ty->Type
 | .int=>Int
 | .bool=>Bool
 | .pair a b=>a.den×b.den
 | .slice e=>List e.den
def Ty.sz:Ty->Nat
 | .int=>1
 | .bool=>1
 | .pair a b=>a.sz+b.sz
 | .slice _=>1
instance Ty.decEq:(t:Ty)->DecidableEq t.den
 | .int=>inferInstanceAs (DecidableEq Int)
 | .bool=>inferInstanceAs (DecidableEq Bool)
 | .pair a b=>have:=Ty.decEq a;have:=Ty.decEq b;inferInstanceAs (DecidableEq (a.den×b.den))
 | .slice e=>have:=Ty.decEq e;inferInstanceAs (DecidableEq (List e.den))
def Qqm(n:Int):Prop:= -9223372036854775808<=n/\n<=9223372036854775807
def Qqw(w:Bh)(b o:Nat)(cs:List Bk):Prop:=∀(j:Nat) (h:j<cs.length),w.cell? ⟨b,o+j,N⟩=R cs[j]
def Qnv{α:Type}(rd:List Bk->α->Prop)(sz:Nat)(w:Bh)(v:Bk)(xs:List α):Prop:=
 (v=A N 0 0/\xs=[])\/
 ∃b o cap,v=A (R ⟨b,o,N⟩) xs.length cap/\xs.length<=cap/\cap<=Bp/\
  ∀(i:Nat) (h:i<xs.length),∃cs,cs.length=sz/\Qqw w b (o+i * sz) cs/\rd cs xs[i]
def Rd:(t:Ty)->Bh->List Bk->t.den->Prop
 | .int,_,vs,n=>vs=[I Z n]/\Qqm n
 | .bool,_,vs,b=>vs=[.bool b]
 | .pair a b,w,vs,x=>∃v1 v2,vs=v1++v2/\Rd a w v1 x.1/\Rd b w v2 x.2
 | .slice e,w,vs,xs=>∃v,vs=[v]/\Qnv (Rd e w) e.sz w v xs
theorem Rd.length: {t:Ty}-> {w:Bh}-> {vs:List Bk}-> {x:t.den}->Rd t w vs x->vs.length=t.sz
 | .int,_,_,_,h=>by simp[h.1,Ty.sz]
 | .bool,_,vs,b,h=>by have B:vs=[.bool b]:=h;simp[B,Ty.sz]
 | .pair _ _,_,_,_,⟨_,_,e,h1,h2⟩=>by simp[e,Ty.sz,h1.length,h2.length]
 | .slice _,_,_,_,⟨_,e,_⟩=>by simp[e,Ty.sz]
structure Qcx (w w':Bh):Prop where
 cell:∀a v,w.cell? a=R v->w'.cell? a=R v
theorem Qcx.refl(w:Bh):Qcx w w:=⟨λ_ _ h=>h⟩
theorem Qcx.trans{a b c:Bh}(h:Qcx a b)(k:Qcx b c):Qcx a c:=⟨λx v B=>k.cell x v (h.cell x v B)⟩
theorem Below.kept{w w':Bh}(h:Bi w.heap.size w w'):Qcx w w':=
 ⟨λa v B=>by rw[h.cell (World.block_lt_of_cell? w a B)];exact B⟩
abbrev Am:=@Below.kept
theorem Qqw.kept{w w':Bh}{b o:Nat}{cs:List Bk}(h:Qqw w b o cs)(k:Qcx w w'):Qqw w' b o cs:=λj B=>k.cell _ _ (h j B)
theorem Rd.kept: {t:Ty}-> {w w':Bh}-> {vs:List Bk}-> {x:t.den}->Rd t w vs x->Qcx w w'->Rd t w' vs x
 | .int,_,_,_,_,h,_=>h
 | .bool,_,_,_,_,h,_=>h
 | .pair _ _,_,_,_,_,⟨v1,v2,e,h1,h2⟩,k=>⟨v1,v2,e,h1.kept k,h2.kept k⟩
 | .slice _,_,_,_,_,⟨v,e,h⟩,k=>⟨v,e,by
   rcases h with h|⟨b,o,cap,hv,hl,hm,hi⟩
   ·exact .inl h
   ·exact .inr ⟨b,o,cap,hv,hl,hm,λi h=>let ⟨cs,h1,h2,h3⟩:=hi i h;⟨cs,h1,h2.kept k,h3.kept k⟩⟩⟩
def Qq4{α:Type}(ow:List Bk->α->List Nat->Prop)(sz:Nat)(w:Bh)(v:Bk)(xs:List α)(F:List Nat):Prop:=
 (xs=[]/\F=[]/\∃(a:Option Cm),v=A a 0 0/\(∀x,a=R x->x.spot=N))\/
 ∃(b o cap:Nat) (cur:Array Bk) (T:Cf) (Fs:List (List Nat)),v=A (R ⟨b,o,N⟩) xs.length cap/\xs.length<=cap/\cap<=Bp/\w.heap[b]?=R (.cells cur T (0,0))/\
  o+cap * sz<=cur.size/\F=b::Fs.flatten/\Fs.length=xs.length/\
  ∀(i:Nat) (h:i<xs.length),ow ((cur.toList.drop (o+i * sz)).take sz) xs[i] (Fs.getD i [])
def Ow:(t:Ty)->Bh->List Bk->t.den->List Nat->Prop
 | .int,_,vs,n,F=>vs=[I Z n]/\Qqm n/\F=[]
 | .bool,_,vs,b,F=>vs=[.bool b]/\F=[]
 | .pair a b,w,vs,x,F=>∃v1 v2 F1 F2,vs=v1++v2/\F=F1++F2/\Ow a w v1 x.1 F1/\Ow b w v2 x.2 F2
 | .slice e,w,vs,xs,F=>∃v,vs=[v]/\Qq4 (Ow e w) e.sz w v xs F
theorem Ow.length: {t:Ty}-> {w:Bh}-> {vs:List Bk}-> {x:t.den}-> {F:List Nat}->Ow t w vs x F->vs.length=t.sz
 | .int,_,_,_,_,h=>by simp[h.1,Ty.sz]
 | .bool,_,_,_,_,h=>by simp[h.1,Ty.sz]
 | .pair _ _,_,_,_,_,⟨_,_,_,_,e,_,h1,h2⟩=>by simp[e,Ty.sz,h1.length,h2.length]
 | .slice _,_,_,_,_,⟨_,e,_⟩=>by simp[e,Ty.sz]
theorem Qnv.gen{α:Type}{E:List Bk->α->Prop}{C:Nat}{w:Bh}{v:Bk}{xs:List α}(h:Qnv E C w v xs):
  ∃(p:Option Cm) (B:Nat),v=A p xs.length B/\xs.length<=B/\xs.length<=Bp/\
   ∀(i:Nat) (h:i<xs.length),∃b o,p=R ⟨b,o,N⟩/\∃cs,cs.length=C/\Qqw w b (o+i * C) cs/\E cs xs[i]:=by
 rcases h with⟨rfl,rfl⟩|⟨b,o,B,rfl,F,G,H⟩
 ·exact⟨N,0,rfl,Aj _,Ak _,λi h=>by simp at h⟩
 ·exact⟨_,B,rfl,F,Au F G,λi h=>⟨b,o,rfl,H i h⟩⟩
theorem Yb{α:Type}{xs ys:List α}{k:Nat}(B:k<xs.length)(C:k<ys.length)(h:xs.take k=ys.take k)(E:xs[k]=ys[k]):
  xs.take (k+1)=ys.take (k+1):=by
 rw[An B,An C,h,E]
theorem Y2{α:Type}{xs ys:List α}{k:Nat}(C:k<xs.length)(E:k<ys.length)(B:xs[k]≠ys[k]):xs≠ys:=by
 intro h;subst h;exact B rfl
theorem Jc{α:Type}{xs ys:List α}{k:Nat}(h:xs.take k=ys.take k)(B:xs.length<=k)(C:ys.length<=k):xs=ys:=by
 rwa [Ao B,Ao C]at h
theorem Qac{w:Bh}{b o:Nat}{v:Bk}(h:Qqw w b o [v]):w.cell? ⟨b,o,N⟩=R v:=h 0 (by simp)
abbrev Q4:Ty:=.pair .int .int
abbrev Qu:Ty:=.pair Q4 Q4
abbrev Q3:Ty:=.pair .int (.pair .int (.pair .int (.pair (.slice .int) (.slice Q4))))
abbrev Qo:Ty:=.pair (.slice Q3) (.pair .int (.pair Q4 (.slice Q4)))
abbrev Qc:Ty:=.pair .int (.pair .int (.pair (.slice Q4) (.pair (.slice Qu) (.slice .int))))
abbrev Qr:Ty:=.pair Qo (.pair (.slice Qc) .int)
abbrev Je:Ty:=.slice Q3
theorem Q6{B:Nat}{a w:Bh}(h:Bi B a w)(n:Nat):Bi B a (w.drewN n):=⟨h.os,h.tape,h.output,h.size,h.block⟩
theorem V8{W w1:Bh}(B:Bi W.heap.size W w1):(∀b o,b<W.heap.size->w1.cell? ⟨b,o,N⟩=W.cell? ⟨b,o,N⟩)/\(∀b o,b<W.heap.size->w1.frozen? ⟨b,o,N⟩=W.frozen? ⟨b,o,N⟩):=
 ⟨λb o h=>B.cell (p:=⟨b,o,N⟩) h,λb o h=>B.frozen (p:=⟨b,o,N⟩) h⟩
theorem Q0{W a b:Bh}(h:Bi W.heap.size W a)(k:Bi a.heap.size a b):Bi W.heap.size W b:=
 h.trans (k.mono h.size)
theorem Q04{e:Ty}{w:Bh}{vs:List Bk}{xs:List e.den}(h:Rd (.slice e) w vs xs):∃d,vs=[d]/\Rd (.slice e) w [d] xs:=by
 obtain⟨d,rfl,h⟩:=h;exact⟨d,rfl,d,rfl,h⟩
theorem Yz{e:Ty}{w:Bh}{v:Bk}{xs:List e.den}(h:Rd (.slice e) w [v] xs):Qnv (Rd e w) e.sz w v xs:=by
 obtain⟨d,e,h⟩:=h;obtain rfl:v=d:=by simpa using e
 exact h
theorem Qcy{w:Bh}{b o:Nat}{B v1:Bk}(h:Qqw w b o [B,v1]):w.cell? ⟨b,o,N⟩=R B/\w.cell? ⟨b,o+1,N⟩=R v1:=
 ⟨h 0 (by simp),h 1 (by simp)⟩
theorem Qm3{w:Bh}{b o:Nat}{B v1 C E:Bk}(h:Qqw w b o [B,v1,C,E]):w.cell? ⟨b,o,N⟩=R B/\w.cell? ⟨b,o+1,N⟩=R v1/\w.cell? ⟨b,o+2,N⟩=R C/\w.cell? ⟨b,o+3,N⟩=R E:=
 ⟨h 0 (by simp),h 1 (by simp),h 2 (by simp),h 3 (by simp)⟩
theorem Q4b{w:Bh}{b o:Nat}{B v1 C E F:Bk}(h:Qqw w b o [B,v1,C,E,F]):w.cell? ⟨b,o,N⟩=R B/\w.cell? ⟨b,o+1,N⟩=R v1/\w.cell? ⟨b,o+2,N⟩=R C/\w.cell? ⟨b,o+3,N⟩=R E/\w.cell? ⟨b,o+4,N⟩=R F:=
 ⟨h 0 (by simp),h 1 (by simp),h 2 (by simp),h 3 (by simp),h 4 (by simp)⟩
theorem Qpc{w:Bh}{b o:Nat}{B v1 C E F G H:Bk}(h:Qqw w b o [B,v1,C,E,F,G,H]):w.cell? ⟨b,o,N⟩=R B/\w.cell? ⟨b,o+1,N⟩=R v1/\w.cell? ⟨b,o+2,N⟩=R C/\w.cell? ⟨b,o+3,N⟩=R E/\w.cell? ⟨b,o+4,N⟩=R F/\w.cell? ⟨b,o+5,N⟩=R G/\w.cell? ⟨b,o+6,N⟩=R H:=
 ⟨h 0 (by simp),h 1 (by simp),h 2 (by simp),h 3 (by simp),h 4 (by simp),h 5 (by simp),h 6 (by simp)⟩
def Qqu(t:Ty)(x y:t.den):Bool:= @decide (x=y) (Ty.decEq t x y)
theorem Z1{t:Ty}{x y:t.den}:Qqu t x y=Bn↔x=y:=by unfold Qqu;exact @decide_eq_true_iff _ (Ty.decEq t x y)
theorem Zc{t:Ty}{x y:t.den}:Qqu t x y=Bm↔¬x=y:=by unfold Qqu;exact @decide_eq_false_iff_not _ (Ty.decEq t x y)
theorem Ju{t:Ty}{x y:t.den}(h:x=y):Qqu t x y=Bn:=Z1.2 h
theorem Vh{t:Ty}{x y:t.den}(h:¬x=y):Qqu t x y=Bm:=Zc.2 h
theorem Zi{t:Ty}{x y:t.den}{r:Bool}(h:r=Bn↔x=y):Ending.returned (.bool r)=.returned (.bool (Qqu t x y)):=by
 cases r
 ·rw[Vh (by simpa using h)]
 ·rw[Ju (by simpa using h)]
def Qqy:(t:Ty)->t.den->Nat
 | .int,_=>0
 | .bool,_=>0
 | .pair a b,x=>Qqy a x.1+Qqy b x.2
 | .slice e,xs=>Bx xs+(List.map (Qqy e) xs).sum
def Q6e(e:Ty)(xs:List e.den):Nat:=(List.map (Qqy e) xs).sum
theorem Q0a(e:Ty)(xs:List e.den):Qqy (.slice e) xs=xs.length+Q6e e xs:=rfl
theorem Q4g{e:Ty}{xs:List e.den}{k:Nat}(h:k<xs.length):Q6e e (xs.take (k+1))=Q6e e (xs.take k)+Qqy e xs[k]:=by
 unfold Q6e;rw[An h,Ff,Hy];simp
theorem Qko{e:Ty}{xs:List e.den}{k:Nat}(h:xs.length<=k):Q6e e (xs.take k)=Q6e e xs:=by rw[Ao h]
theorem Q7v{e:Ty}(xs:List e.den)(k:Nat):Q6e e (xs.take k)<=Q6e e xs:=by
 have h:Q6e e (xs.take k)+Q6e e (xs.drop k)=Q6e e xs:=by unfold Q6e;rw[<-Hy,<-Ff,Et]
 omega
def Ty.flat:Ty->Bool
 | .int=>Bn
 | .bool=>Bn
 | .pair a b=>a.flat && b.flat
 | .slice _=>Bm
theorem Qc3:(t:Ty)->t.flat=Bn->∀x:t.den,Qqy t x=0
 | .int,_,_=>rfl
 | .bool,_,_=>rfl
 | .pair a b,h,x=>by simp only[Ty.flat,Bl]at h;simp[Qqy,Qc3 a h.1 x.1,Qc3 b h.2 x.2]
theorem Qjw{e:Ty}(h:e.flat=Bn)(xs:List e.den):Q6e e xs=0:=by
 unfold Q6e;induction xs with
 |nil=>rfl
 |cons x xs ih=>rw[List.map_cons,List.sum_cons,ih,Qc3 e h x]
theorem Zd{e:Ty}(h:e.flat=Bn)(xs:List e.den):Qqy (.slice e) xs=xs.length:=by rw[Q0a,Qjw h];rfl
def Qqs(left:Int)(n:Nat):Int:=if(n:Int)<=left then left-n else -1
theorem Q1j{left:Int}{n:Nat}(h:(n:Int)<=left):Qqs left n=left-n:=by unfold Qqs;rw[if_pos h]
theorem Q0z{left:Int}{n:Nat}(h:¬(n:Int)<=left):Qqs left n= -1:=by unfold Qqs;rw[if_neg h]
theorem Qm{k:IntKind}{a b:Int}(h:a=b):Ending.returned (.int k a)=.returned (.int k b):=by rw[h]
def Q9z{α:Type}(p:α->Bool)(xs:List α):Int:=match xs.findIdx? p with
 |some i=>(i:Int)
 |none=> -1
theorem Qcn{α:Type}{p:α->Bool}{xs:List α}{k:Nat}(C:k<xs.length)(h:∀(j:Nat) (B:j<xs.length),j<k->p xs[j]=Bm)(E:p xs[k]=Bn):Q9z p xs=k:=by
 have:xs.findIdx? p=R k:=Ih.2 ⟨C,E,λj B=>by rw[h j (by omega) B];simp⟩;unfold Q9z;rw[this]
theorem Q7x{α:Type}{p:α->Bool}{xs:List α}{k:Nat}(E:xs.length<=k)(h:∀(j:Nat) (B:j<xs.length),j<k->p xs[j]=Bm):Q9z p xs= -1:=by
 have:xs.findIdx? p=N:=List.findIdx?_eq_none_iff.2 λx C=>by obtain⟨j,B,rfl⟩:=Av.1 C;exact h j B (by omega)
 unfold Q9z;rw[this]
theorem Q70{α:Type}(p:α->Bool)(xs:List α):decide (0<=Q9z p xs)=xs.any p:=by
 unfold Q9z;cases h:xs.findIdx? p with
 |some i=>obtain⟨B,C,_⟩:=Ih.1 h;have:xs.any p=Bn:=List.any_eq_true.2 ⟨xs[i],As B,C⟩;rw[this];simp
 |none=>
  have:xs.any p=Bm:=by rw[List.any_eq_false];intro x E;rw[List.findIdx?_eq_none_iff.1 h x E];simp
  rw[this];simp
def Vg(P:Eq)(f:Nat):Prop:=∀(args:Array Bk) (w:Bh),(callFunc f args).run P w=.ok (.enter f args) w
structure Q1 (X:Nat->Prop) (w w':Bh):Prop where
 os:w'.os=w.os
 tape:w'.tape=w.tape
 output:w'.output=w.output
 size:w.heap.size<=w'.heap.size
 block:∀b,b<w.heap.size->¬X b->w'.heap[b]?=w.heap[b]?
theorem Q1.refl(X:Nat->Prop)(w:Bh):Q1 X w w:=⟨rfl,rfl,rfl,Aj _,λ_ _ _=>rfl⟩
abbrev Ah:=@Q1.refl
theorem Q1.trans{X:Nat->Prop}{a b c:Bh}(h:Q1 X a b)(k:Q1 X b c):Q1 X a c:=
 ⟨k.os.trans h.os,k.tape.trans h.tape,k.output.trans h.output,Au h.size k.size,
  λi B C=>(k.block i (Ap B h.size) C).trans (h.block i B C)⟩
abbrev Aw:=@Q1.trans
theorem Q1.mono{X Y:Nat->Prop}{a b:Bh}(h:Q1 X a b)(B:∀i,X i->Y i):Q1 Y a b:=
 ⟨h.os,h.tape,h.output,h.size,λi C E=>h.block i C (λF=>E (B i F))⟩
abbrev Ax:=@Q1.mono
theorem Below.fr{X:Nat->Prop}{w w':Bh}(h:Bi w.heap.size w w'):Q1 X w w':=⟨h.os,h.tape,h.output,h.size,λb B _=>h.block b B⟩
abbrev Ay:=@Below.fr
theorem Q1.below{B:Nat}{X:Nat->Prop}{w w':Bh}(h:Q1 X w w')(E:B<=w.heap.size)(hX:∀i,X i->B<=i):Bi B w w':=
 ⟨h.os,h.tape,h.output,h.size,λk F=>h.block k (by omega) (λC=>by have:=hX k C;omega)⟩
theorem Q1.alloc{X:Nat->Prop}{a w:Bh}(h:Q1 X a w)(o:Obj):Q1 X a (w.alloc o):=
 h.trans ⟨rfl,rfl,rfl,by simp,λk B _=>Az _ _ _ B⟩
theorem Q1.setCell{X:Nat->Prop}{a w:Bh}(h:Q1 X a w){p:Cm}(B:X p.block)(u:Bk):Q1 X a (w.setCell p u):=
 h.trans ⟨rfl,rfl,rfl,by simp[Ft],λk _ C=>Below.heap_setCell _ _ _ _ (λe=>C (e▸B))⟩
theorem Q1.drew{X:Nat->Prop}{a w:Bh}(h:Q1 X a w):Q1 X a w.drew:=⟨h.os,h.tape,h.output,h.size,h.block⟩
theorem Q1.drewN{X:Nat->Prop}{a w:Bh}(h:Q1 X a w)(n:Nat):Q1 X a (w.drewN n):=⟨h.os,h.tape,h.output,h.size,h.block⟩
theorem Q1.call{X:Nat->Prop}{a w w':Bh}(h:Q1 X a w)(k:Bi w.heap.size w w'):Q1 X a w':=h.trans (Ay k)
theorem Qgu{B:List (List Nat)}{i:Nat}(h:i<B.length):B.getD i []∈B:=by
 rw[Ab,Ad h];exact As h
theorem Zu{B:List (List Nat)}{i b:Nat}(h:i<B.length)(C:b∈B.getD i []):b∈B.flatten:=Ht.2 ⟨_,Qgu h,C⟩
theorem Ow.kept: {t:Ty}-> {w w':Bh}-> {vs:List Bk}-> {x:t.den}-> {F:List Nat}->Ow t w vs x F->(∀b∈F,w'.heap[b]?=w.heap[b]?)->Ow t w' vs x F
 | .int,_,_,_,_,_,h,_=>h
 | .bool,_,_,_,_,_,h,_=>h
 | .pair _ _,_,_,_,_,_,⟨v1,v2,F1,F2,e,ef,h1,h2⟩,k=>⟨v1,v2,F1,F2,e,ef,h1.kept (λb B=>k b (by simp[ef,B])),h2.kept (λb B=>k b (by simp[ef,B]))⟩
 | .slice _,w,w',_,_,F,⟨v,e,h⟩,k=>⟨v,e,by
   rcases h with h|⟨b,o,cap,cur,T,Fs,hv,hl,hm,B,hsz,hF,hFl,hi⟩
   ·exact .inl h
   ·refine .inr ⟨b,o,cap,cur,T,Fs,hv,hl,hm,by rw[k b (by simp[hF])];exact B,hsz,hF,hFl,λi h=> ?_⟩
    refine(hi i h).kept (λc C=>k c ?_);rw[hF];exact Aa _ (Zu (by omega) C)⟩
theorem Ow.frame{t:Ty}{w w':Bh}{vs:List Bk}{x:t.den}{F:List Nat}{X:Nat->Prop}(h:Ow t w vs x F)(k:Q1 X w w')(B:∀b∈F,b<w.heap.size/\¬X b):Ow t w' vs x F:=
 h.kept λb C=>k.block b (B b C).1 (B b C).2
theorem Ow.rd: {t:Ty}-> {w:Bh}-> {vs:List Bk}-> {x:t.den}-> {F:List Nat}->Ow t w vs x F->Rd t w vs x
 | .int,_,_,_,_,h=>⟨h.1,h.2.1⟩
 | .bool,_,_,_,_,h=>h.1
 | .pair _ _,_,_,_,_,⟨v1,v2,_,_,e,_,G,h2⟩=>⟨v1,v2,e,G.rd,h2.rd⟩
 | .slice e,w,_,xs,F,⟨v,ev,h⟩=>⟨v,ev,by
   rcases h with⟨B,K,a,C,L⟩|⟨b,o,H,M,T,X,C,O,P,S,Y,K,c,E⟩
   ·cases a with
    |none=>left;exact⟨C,B⟩
    |some a=>
     right;refine⟨a.block,a.off,0, ?_, ?_,Ak _, ?_⟩
     ·have J:=L a rfl
      obtain⟨d,f,g⟩:=a;simp only at J;subst J;rw[C,B];rfl
     ·rw[B];exact Ak _
     ·intro i h;rw[B]at h;exact absurd h (Da _)
   ·right
    refine⟨b,o,H,C,O,P,λi h=>⟨_,(E i h).length, ?_,(E i h).rd⟩⟩;intro j U;have V:=U;rw[(E i h).length]at V;have W:o+i * e.sz+j<M.size:=by
     have G:i * e.sz+e.sz<=H * e.sz:=by rw[<-Dq];exact Bd _ (by omega)
     omega
    simp only[Er,S];simp[W]⟩
theorem Ow.slice_form{e:Ty}{w:Bh}{v:Bk}{xs:List e.den}{F:List Nat}(h:Ow (.slice e) w [v] xs F):∃p B,v=A p xs.length B:=by
 obtain⟨E,G,h⟩:=h;obtain rfl:v=E:=by simpa using G
 rcases h with⟨H,_,a,C,_⟩|⟨b,o,B,_,_,_,C,_⟩
 ·exact⟨a,0,by rw[C,H];rfl⟩
 ·exact⟨_,B,C⟩
theorem Jx{e:Ty}{w:Bh}{vs:List Bk}{xs:List e.den}{F:List Nat}(h:Ow (.slice e) w vs xs F):∃p B,vs=[A p xs.length B]/\Ow (.slice e) w [A p xs.length B] xs F:=by
 obtain⟨v,rfl,h⟩:=h;have C:Ow (.slice e) w [v] xs F:=⟨v,rfl,h⟩;obtain⟨p,B,rfl⟩:=C.slice_form;exact⟨p,B,rfl,C⟩
def Qrf(w:Bh)(g:Nat):Nat->List Bk->Bh
 |_,[]=>w
 |o,v::r=>Qrf (w.setCell ⟨g,o,N⟩ v) g (o+1) r
def Q1n(cur:Array Bk):Nat->List Bk->Array Bk
 |_,[]=>cur
 |o,v::r=>Q1n (cur.setIfInBounds o v) (o+1) r
theorem Z2{w:Bh}{g o:Nat}{v:Bk}{B:Array Bk}{T:Cf}{fr:Nat×Nat}(h:w.heap[g]?=R (.cells B T fr)):
  (w.setCell ⟨g,o,N⟩ v).heap[g]?=R (.cells (B.setIfInBounds o v) T fr):=by
 simp[Ft,Array.getElem?_modify,h]
theorem V3{g:Nat}{T:Cf}{fr:Nat×Nat}:∀(vs:List Bk) (o:Nat) (w:Bh) (B:Array Bk),w.heap[g]?=R (.cells B T fr)->
  (Qrf w g o vs).heap[g]?=R (.cells (Q1n B o vs) T fr)
 | [],_,_,_,h=>h
 |v::r,o,w,B,h=>V3 r (o+1) _ _ (Z2 h)
theorem Qa3{g:Nat}:∀(vs:List Bk) (o:Nat) (w:Bh),(Qrf w g o vs).heap.size=w.heap.size
 | [],_,_=>rfl
 |v::r,o,w=>by rw[Qrf,Qa3 r];simp[Ft]
theorem Zq{g:Nat}{X:Nat->Prop}(hX:X g):∀(vs:List Bk) (o:Nat) (w:Bh),Q1 X w (Qrf w g o vs)
 | [],_,w=>Q1.refl X w
 |v::r,o,w=>((Q1.refl X w).setCell (p:=⟨g,o,N⟩) hX v).trans (Zq hX r (o+1) _)
theorem Q46:∀(vs:List Bk) (o:Nat) (B:Array Bk),(Q1n B o vs).size=B.size
 | [],_,_=>rfl
 |v::r,o,B=>by rw[Q1n,Q46 r];simp
theorem Q7w:∀(vs:List Bk) (o:Nat) (B:Array Bk) (j:Nat),o+vs.length<=B.size->
  (Q1n B o vs)[j]?=if o<=j/\j<o+vs.length then vs[j-o]? else B[j]?
 | [],o,B,j,_=>by rw[Q1n,if_neg (by simp)]
 |v::r,o,B,j,h=>by
  simp only[Bs]at h;rw[Q1n,Q7w r (o+1) _ j (by simp;omega)];by_cases C:j=o
  ·subst C
   rw[if_neg (by omega),if_pos (by simp),Array.getElem?_setIfInBounds,if_pos rfl,if_pos (by omega)];simp
  ·have F:(B.setIfInBounds o v)[j]?=B[j]?:=by rw[Array.getElem?_setIfInBounds,if_neg (λe=>C e.symm)]
   rw[F];by_cases E:o+1<=j/\j<o+1+r.length
   ·rw[if_pos E,if_pos (by simp only[Bs];omega)]
    rw[show j-o=(j-(o+1))+1 by omega,List.getElem?_cons_succ]
   ·rw[if_neg E,if_neg (by simp only[Bs];omega)]
def Q25(cur:Array Bk)(o n:Nat):List Bk:=(cur.toList.drop o).take n
theorem Q1w{B:Array Bk}{o n:Nat}(h:o+n<=B.size):(Q25 B o n).length=n:=by unfold Q25;simp;omega
theorem Q5y{B:Array Bk}{o:Nat}{vs:List Bk}(h:o+vs.length<=B.size):Q25 (Q1n B o vs) o vs.length=vs:=by
 apply Du;intro j;unfold Q25;rw[Cu];by_cases C:j<vs.length
 ·rw[if_pos C,Ct,Array.getElem?_toList,Q7w vs o B _ h,if_pos (by omega)]
  congr 1;omega
 ·rw[if_neg C,El (by omega)]
theorem Q3q{B:Array Bk}{o p n:Nat}{vs:List Bk}(h:o+vs.length<=B.size)(E:p+n<=o\/o+vs.length<=p):Q25 (Q1n B o vs) p n=Q25 B p n:=by
 apply Du;intro j;unfold Q25;rw[Cu,Cu];by_cases C:j<n
 ·rw[if_pos C,if_pos C,Ct,Ct,Array.getElem?_toList,Array.getElem?_toList,Q7w vs o B _ h,if_neg (by omega)]
 ·rw[if_neg C,if_neg C]
theorem Q58{w:Bh}{g:Nat}{B:Array Bk}{T:Cf}{fr:Nat×Nat}(h:w.heap[g]?=R (.cells B T fr))(o n:Nat)(E:o+n<=B.size):Qqw w g o (Q25 B o n):=by
 intro j C;have F:=C;rw[Q1w E]at F;simp only[Er,h];unfold Q25 at C⊢;simp[show o+j<B.size by omega]
def Jh(e:Ty)(T:Cf)(B g n:Nat)(xs:List e.den)(k:Nat)(w:Bh):Prop:=
 ∃(cur:Array Bk) (Fs:List (List Nat)),w.heap[g]?=R (.cells cur T (0,0))/\cur.size=n * e.sz/\k<=n/\Fs.length=k/\B<=g/\
  (∀(i:Nat) (h:i<xs.length),i<k->Ow e w (Q25 cur (i * e.sz) e.sz) xs[i] (Fs.getD i []))/\(g::Fs.flatten).Nodup/\∀b∈Fs.flatten,B<=b/\b<w.heap.size
theorem Jh.start{e:Ty}{T:Cf}{B g n:Nat}{xs:List e.den}{w:Bh}{C:Array Bk}(h:w.heap[g]?=R (.cells C T (0,0)))(E:C.size=n * e.sz)(F:B<=g):Jh e T B g n xs 0 w:=
 ⟨C,[],h,E,Ak _,rfl,F,λi _ h=>absurd h (Da _),by simp,by simp⟩
theorem Jh.kept{e:Ty}{T:Cf}{B g n:Nat}{xs:List e.den}{k:Nat}{w w':Bh}(h:Jh e T B g n xs k w)(E:Bi w.heap.size w w'):Jh e T B g n xs k w':=by
 obtain⟨H,J,G,K,L,M,O,P,S,F⟩:=h;have U:g<w.heap.size:=(Al.1 G).1;refine⟨H,J,by rw[E.block g U];exact G,K,L,M,O,λi V W=>(P i V W).kept λb C=>E.block b (F b (Zu (by omega) C)).2,S,λb C=>⟨(F b C).1,Ap (F b C).2 E.size⟩⟩
theorem Jh.next{e:Ty}{T:Cf}{B g n:Nat}{xs:List e.den}{k:Nat}{w:Bh}(h:Jh e T B g n xs k w)(H:k<n):
  ∃us,us.length=e.sz/\Qqw w g (k * e.sz) us:=by
 obtain⟨C,J,F,G,_⟩:=h;have E:k * e.sz+e.sz<=C.size:=by rw[G,<-Dq];exact Bd _ (by omega)
 exact⟨Q25 C (k * e.sz) e.sz,Q1w E,Q58 F _ _ E⟩
theorem Jh.free{e:Ty}{T:Cf}{B g n:Nat}{xs:List e.den}{k:Nat}{w:Bh}(h:Jh e T B g n xs k w)(o:Nat):w.frozen? ⟨g,o,N⟩=Bm:=by
 obtain⟨E,F,C,_⟩:=h;simp[World.frozen?,C]
theorem Jh.lt{e:Ty}{T:Cf}{B g n:Nat}{xs:List e.den}{k:Nat}{w:Bh}(h:Jh e T B g n xs k w):g<w.heap.size:=by
 obtain⟨E,F,C,_⟩:=h;exact(Al.1 C).1
theorem Jh.step{e:Ty}{T:Cf}{B g n:Nat}{xs:List e.den}{k:Nat}{w w1:Bh}{vs:List Bk}{F:List Nat}(h:Jh e T B g n xs k w)(z:k<xs.length)(l:k<n)(K:Bi w.heap.size w w1)
  (M:Ow e w1 vs xs[k] F) (m:F.Nodup) (E:∀b∈F,w.heap.size<=b/\b<w1.heap.size):Jh e T B g n xs (k+1) (Qrf w1 g (k * e.sz) vs):=by
 obtain⟨L,G,O,P,h3,S,o,p,U,H⟩:=h;have q:g<w.heap.size:=(Al.1 O).1;have V:=M.length;have W:k * e.sz+vs.length<=L.size:=by rw[P,V,<-Dq];exact Bd _ (by omega)
 have r:w1.heap[g]?=R (.cells L T (0,0)):=by rw[K.block g q];exact O
 have Y:Q1 (λi=>i=g) w1 (Qrf w1 g (k * e.sz) vs):=Zq (X:=λi=>i=g) rfl vs _ _;have s:=Qa3 (g:=g) vs (k * e.sz) w1;have A0:=K.size;have t:∀i,i<k->(G++ [F]).getD i []=G.getD i []:=λi c=>by rw[Ab,Ab,List.getElem?_append_left (by omega)]
 have u:(G++ [F]).getD k []=F:=by rw[Ab,Em (by omega),S];simp
 have d:g∉F:=λJ=>by have:=(E g J).1;omega
 have f:g∉G.flatten:=(Ar.1 U).1;refine⟨Q1n L (k * e.sz) vs,G++ [F],V3 vs _ _ _ r,by rw[Q46];exact P,l,by simp[S],o,λi c A1=> ?_, ?_, ?_⟩
 ·by_cases v:i=k
  ·subst v
   have j:=Q5y W;rw[V]at j;rw[u,j];exact M.frame Y λb C=>⟨(E b C).2,λe=>d (e▸C)⟩
  ·rw[t i (by omega),Q3q W (by
    left;rw[<-Dq];exact Bd _ (by omega))]
   refine(p i c (by omega)).kept λb C=> ?_;have J:=Zu (by omega) C;rw[Y.block b (by have:=(H b J).2;omega) (λe=>f (e▸J)),K.block b (H b J).2]
 ·rw[Gf,List.flatten_singleton,Ar]
  refine⟨by rw[At0];exact λh=>h.elim f d, ?_⟩;rw[Ba];exact⟨(Ar.1 U).2,m,λa x b y e=>by have:=(H a x).2;have:=(E b y).1;omega⟩
 ·intro b C
  rw[Gf,List.flatten_singleton,At0]at C;rw[s];rcases C with C|C
  ·exact⟨(H b C).1,by have:=(H b C).2;omega⟩
  ·exact⟨by have:=(E b C).1;omega,(E b C).2⟩
theorem Jh.step_at{e:Ty}{T:Cf}{B g n:Nat}{xs:List e.den}{k:Nat}{w w1:Bh}{F:List Nat}(C:Nat)(vs:List Bk)(E:C=k * e.sz)(h:Jh e T B g n xs k w)(G:k<xs.length)(H:k<n)(J:Bi w.heap.size w w1)
  (K:Ow e w1 vs xs[k] F) (L:F.Nodup) (M:∀b∈F,w.heap.size<=b/\b<w1.heap.size):Jh e T B g n xs (k+1) (Qrf w1 g C vs):=by
 subst E;exact h.step G H J K L M
def Qqa(t:Ty)(B:Nat)(w:Bh)(vs:List Bk)(x:t.den):Prop:=∃F,Ow t w vs x F/\F.Nodup/\∀b∈F,B<=b/\b<w.heap.size
theorem Jh.done{e:Ty}{T:Cf}{B g n:Nat}{xs:List e.den}{k:Nat}{w:Bh}(h:Jh e T B g n xs k w)(W:xs.length<=k)(H:n=xs.length)(J:n<=Bp):
  Qqa (.slice e) B w [A (R ⟨g,0,N⟩) n n] xs:=by
 obtain⟨K,E,F,L,X,M,O,P,S,U⟩:=h;have V:g<w.heap.size:=(Al.1 F).1;subst H;obtain rfl:k=xs.length:=by omega
 refine⟨g::E.flatten,⟨_,rfl,.inr ⟨g,0,xs.length,K,T,E,rfl,Aj _,J,F,by rw[Cd,L];exact Aj _,rfl,M,λi G=> ?_⟩⟩,S, ?_⟩
 ·have:=P i G G
  rw[Cd];exact this
 ·intro b C
  rcases Aq.1 C with rfl|C
  ·exact⟨O,V⟩
  ·exact U b C
def Q1z(t:Ty)(w:Bh)(vs:List Bk)(x:t.den)(lo hi:Nat):Prop:=lo<=hi/\∃F,Ow t w vs x F/\F.Nodup/\∀b∈F,lo<=b/\b<hi
theorem Q1z.int{w:Bh}{n:Int}(h:Qqm n)(B:Nat):Q1z .int w [I Z n] n B B:=⟨Aj _,[],⟨rfl,h,rfl⟩,by simp,by simp⟩
theorem Q1z.pair{a b:Ty}{w:Bh}{v1 C:List Bk}{x:a.den}{y:b.den}{G H J:Nat}(M:Q1z a w v1 x G H)(O:Q1z b w C y H J):Q1z (.pair a b) w (v1++C) (x,y) G J:=by
 obtain⟨l1,K,P,S,E⟩:=M;obtain⟨l2,L,T,U,F⟩:=O;refine⟨Au l1 l2,K++L,⟨v1,C,K,L,rfl,rfl,P,T⟩, ?_,λb B=> ?_⟩
 ·rw[Ba]
  exact⟨S,U,λc V d W e=>by have:=(E c V).2;have:=(F d W).1;omega⟩
 ·rcases At0.1 B with B|B
  ·exact⟨(E b B).1,by have:=(E b B).2;omega⟩
  ·exact⟨by have:=(F b B).1;omega,(F b B).2⟩
theorem Q1z.fr{t:Ty}{w w':Bh}{vs:List Bk}{x:t.den}{c:Nat}{X:Nat->Prop}(h:Qqa t c w vs x)(k:Q1 X w w')(hX:∀i,X i->i<c)(C:Nat)(G:C<=c)(H:c<=w.heap.size):Q1z t w' vs x C w.heap.size:=by
 obtain⟨F,o,n,r⟩:=h;exact⟨by omega,F,o.frame k λb B=>⟨(r b B).2,λE=>by have:=hX b E;have:=(r b B).1;omega⟩,n,λb B=>⟨by have:=(r b B).1;omega,(r b B).2⟩⟩
theorem Q1z.new{t:Ty}{w:Bh}{vs:List Bk}{x:t.den}{B C:Nat}(h:Q1z t w vs x B C)(G:C<=w.heap.size):Qqa t B w vs x:=by
 obtain⟨_,F,o,n,r⟩:=h;exact⟨F,o,n,λb E=>⟨(r b E).1,by have:=(r b E).2;omega⟩⟩
theorem Qqa.flat{t:Ty}{B:Nat}{w:Bh}{vs:List Bk}{x:t.den}(h:Ow t w vs x []):Qqa t B w vs x:=⟨[],h,by simp,by simp⟩
theorem Qqa.lo{t:Ty}{B C:Nat}{w:Bh}{vs:List Bk}{x:t.den}(h:Qqa t B w vs x)(G:C<=B):Qqa t C w vs x:=
 let ⟨F,o,n,r⟩:=h;⟨F,o,n,λb E=>⟨Au G (r b E).1,(r b E).2⟩⟩
theorem Qqa.kept{t:Ty}{B:Nat}{w w':Bh}{vs:List Bk}{x:t.den}(h:Qqa t B w vs x)(E:Bi w.heap.size w w'):Qqa t B w' vs x:=
 let ⟨F,o,n,r⟩:=h;⟨F,o.kept λb C=>E.block b (r b C).2,n,λb C=>⟨(r b C).1,Ap (r b C).2 E.size⟩⟩
theorem V7(a b:Ty)(x:(Ty.pair a b).den):Qqy (.pair a b) x=Qqy a x.1+Qqy b x.2:=rfl
theorem Va(x:Ty.int.den):Qqy .int x=0:=rfl
def Qhp(t:Ty)(w:Bh)(x:t.den)(e:Ending)(w':Bh):Prop:=∃v,e=.returned v/\Qqa t w.heap.size w' [v] x/\Bi w.heap.size w w'
def Q24(t:Ty)(w:Bh)(x:t.den)(e:Ending)(w':Bh):Prop:=∃vs,e=.returned (.agg vs.toArray)/\Qqa t w.heap.size w' vs x/\Bi w.heap.size w w'
theorem Jo{e:Ty}{B:Nat}{w:Bh}{v:Bk}{xs:List e.den}(h:Qqa (.slice e) B w [v] xs):∃p C,v=A p xs.length C:=let ⟨_,o,_⟩:=h;o.slice_form
theorem Qe4{us:List Bk}(h:us.length=1):∃B,us=[B]:=by
 match us,h with
 | [B],_=>exact⟨B,rfl⟩
theorem Ql5{us:List Bk}(h:us.length=2):∃B C,us=[B,C]:=by
 match us,h with
 | [B,C],_=>exact⟨B,C,rfl⟩
theorem Qif{us:List Bk}(h:us.length=4):∃B C E F,us=[B,C,E,F]:=by
 match us,h with
 | [B,C,E,F],_=>exact⟨B,C,E,F,rfl⟩
theorem Qi8{us:List Bk}(h:us.length=5):∃B C E F G,us=[B,C,E,F,G]:=by
 match us,h with
 | [B,C,E,F,G],_=>exact⟨B,C,E,F,G,rfl⟩
theorem Qg5{us:List Bk}(h:us.length=7):∃B C E F G H J,us=[B,C,E,F,G,H,J]:=by
 match us,h with
 | [B,C,E,F,G,H,J],_=>exact⟨B,C,E,F,G,H,J,rfl⟩
def Vc:(t:Ty)->t.den->Nat
 | .int,_=>1
 | .bool,_=>0
 | .pair a b,x=>Vc a x.1+Vc b x.2
 | .slice e,xs=>(List.map (Vc e) xs).sum
def mk:(t:Ty)->t.den->Int->t.den
 | .int,_,k=>k
 | .bool,b,_=>b
 | .pair a b,x,k=>(mk a x.1 k,mk b x.2 (k+Vc a x.1))
 | .slice e,xs,k=>(List.foldl (λ(acc:List e.den×Int) x=>(acc.1++ [mk e x acc.2],acc.2+Vc e x)) ([],k) xs).1
def Z9(e:Ty)(xs:List e.den):Nat:=(List.map (Vc e) xs).sum
theorem Q2x{e:Ty}{xs:List e.den}{k:Nat}(h:k<xs.length):Z9 e (xs.take (k+1))=Z9 e (xs.take k)+Vc e xs[k]:=by
 unfold Z9;rw[An h,Ff,Hy];simp
theorem Q2u{e:Ty}{xs:List e.den}{k:Nat}(h:xs.length<=k):Z9 e (xs.take k)=Z9 e xs:=by rw[Ao h]
theorem Q65{e:Ty}(xs:List e.den)(k:Nat):Z9 e (xs.take k)<=Z9 e xs:=by
 have h:Z9 e (xs.take k)+Z9 e (xs.drop k)=Z9 e xs:=by unfold Z9;rw[<-Hy,<-Ff,Et]
 omega
theorem Qow{e:Ty}(xs:List e.den)(B:List e.den)(k:Int):
  (List.foldl (λ(B:List e.den×Int) x=>(B.1++ [mk e x B.2],B.2+Vc e x)) (B,k) xs).2=k+(Z9 e xs:Nat)/\
  (List.foldl (λ(B:List e.den×Int) x=>(B.1++ [mk e x B.2],B.2+Vc e x)) (B,k) xs).1=B++mk (.slice e) xs k:=by
 induction xs generalizing B k with
 |nil=>simp[Z9,mk]
 |cons x r ih=>
  have C:=ih (B++ [mk e x k]) (k+Vc e x);have E:=ih [mk e x k] (k+Vc e x);constructor
  ·rw[Ce,C.1];simp[Z9];omega
  ·rw[Ce,C.2]
   show _=B++(List.foldl _ ([],k) (x::r)).1;rw[Ce];simp only[Bt];rw[E.2,Dd]
theorem Qk5{e:Ty}(x:e.den)(r:List e.den)(k:Int):mk (.slice e) (x::r) k=mk e x k::mk (.slice e) r (k+Vc e x):=by
 show(List.foldl _ ([],k) (x::r)).1=_;rw[Ce];simp only[Bt];rw[(Qow r [mk e x k] (k+Vc e x)).2];rfl
theorem Ji{e:Ty}(xs:List e.den)(k:Int):Bx (mk (.slice e) xs k)=xs.length:=by
 induction xs generalizing k with
 |nil=>rfl
 |cons x r ih=>rw[Qk5,Bs,Bs,ih]
theorem Q99{e:Ty}(xs:List e.den)(k:Int)(i:Nat)(h:i<xs.length)(B:i<Bx (mk (.slice e) xs k)):(mk (.slice e) xs k)[i]'B=mk e xs[i] (k+(Z9 e (xs.take i):Nat)):=by
 induction xs generalizing k i with
 |nil=>simp at h
 |cons x r ih=>
  have F:=Qk5 x r k;cases i with
  |zero=>
   have:(mk (.slice e) (x::r) k)[0]?=R (mk e x k):=by rw[F];rfl
   have C:=Ad B;rw[C]at this;simp only[Option.some.injEq]at this;rw[this];simp[Z9]
  |succ i=>
   have G:i<r.length:=by simpa using h
   have E:i<Bx (mk (.slice e) r (k+Vc e x)):=by rw[Ji];exact G
   have:(mk (.slice e) (x::r) k)[i+1]?=R ((mk (.slice e) r (k+Vc e x))[i]'E):=by rw[F,List.getElem?_cons_succ,Ad E]
   have C:=Ad B;rw[C]at this;simp only[Option.some.injEq]at this;rw[this,ih (k+Vc e x) i G E];congr 1
   simp[Z9];omega
def Qhf(e:Ty)(xs:List e.den)(k:Int)(i:Nat):List e.den:=(mk (.slice e) xs k).take i++xs.drop i
theorem Qfd{e:Ty}(xs:List e.den)(k:Int)(i:Nat)(h:i<=xs.length):(Qhf e xs k i).length=xs.length:=by
 have:=Ji xs k;simp only[Qhf,Bo,Cj,List.length_drop];omega
theorem Qno{e:Ty}{xs:List e.den}{k:Int}{i:Nat}(h:i<xs.length)(B:i<(Qhf e xs k i).length):(Qhf e xs k i)[i]'B=xs[i]:=by
 have F:=Ji xs k;have E:(List.take i (mk (.slice e) xs k)).length=i:=by rw[Cj];omega
 have C:(Qhf e xs k i)[i]?=R xs[i]:=by unfold Qhf;rw[Em (by omega),E,Gp,Ct,Nat.add_zero,Ad h]
 rw[Ad B]at C;simpa using C
theorem Qjj{e:Ty}{xs:List e.den}{k:Int}{i:Nat}(h:i<xs.length):Qhf e xs k (i+1)=(Qhf e xs k i).set i (mk e xs[i] (k+(Z9 e (xs.take i):Nat))):=by
 have E:=Ji xs k;have B:i<Bx (mk (.slice e) xs k):=by omega
 have C:(List.take i (mk (.slice e) xs k)).length=i:=by rw[Cj];omega
 unfold Qhf;rw[An B,Q99 xs k i h B,List.set_append_right _ _ (by omega),C,Gp,List.drop_eq_getElem_cons h,List.set_cons_zero,Dd];rfl
theorem Qll{e:Ty}(xs:List e.den)(k:Int):Qhf e xs k 0=xs:=by simp[Qhf]
theorem Qm2{e:Ty}(xs:List e.den)(k:Int)(i:Nat)(h:xs.length<=i):Qhf e xs k i=mk (.slice e) xs k:=by
 have B:=Ji xs k;unfold Qhf;rw[Ao (by omega),List.drop_eq_nil_of_le h,Co]
theorem Ow.gen{e:Ty}{w:Bh}{v:Bk}{xs:List e.den}{F:List Nat}(h:Ow (.slice e) w [v] xs F):∃(p:Option Cm) (B:Nat),v=A p xs.length B/\xs.length<=Bp:=by
 obtain⟨G,H,h⟩:=h;obtain rfl:v=G:=by simpa using H
 rcases h with⟨E,_,a,C,_⟩|⟨b,o,B,_,_,_,C,J,K,_⟩
 ·exact⟨a,0,by rw[C,E];rfl,by rw[E];exact Ak _⟩
 ·exact⟨_,B,C,Au J K⟩
theorem Ow.lt: {t:Ty}-> {w:Bh}-> {vs:List Bk}-> {x:t.den}-> {F:List Nat}->Ow t w vs x F->∀c∈F,c<w.heap.size
 | .int,_,_,_,_,h,c,hc=>by rw[h.2.2]at hc;simp at hc
 | .bool,_,_,_,_,h,c,hc=>by rw[h.2]at hc;simp at hc
 | .pair _ _,_,_,_,_,⟨_,_,F1,F2,_,e,h1,h2⟩,c,hc=>by rw[e,At0]at hc;exact hc.elim (h1.lt c) (h2.lt c)
 | .slice e,w,_,xs,F,⟨v,_,h⟩,c,hc=>by
  rcases h with⟨_,B,_⟩|⟨b,o,L,M,T,O,_,_,_,C,_,B,P,E⟩
  ·rw[B]at hc;simp at hc
  ·rw[B]at hc
   rcases Aq.1 hc with rfl|hc
   ·exact(Al.1 C).1
   ·obtain⟨G,H,J⟩:=Ht.1 hc
    obtain⟨j,K,rfl⟩:=Av.1 H;refine(E j (by omega)).lt c ?_;rw[Ab,Ad K];exact J
theorem Qqn{C B:List Nat}(h:(C++B).Nodup):C.Nodup/\B.Nodup/\∀a,a∈C->a∈B->False:=by
 rw[Ba]at h;exact⟨h.1,h.2.1,λa E F=>h.2.2 a E a F rfl⟩
theorem Qqd{b:Nat}{C B:List Nat}(h:b∉C++B):b∉C/\b∉B:=by
 rw[At0]at h;exact⟨λx=>h (.inl x),λx=>h (.inr x)⟩
theorem Qqh{E B C:List Nat}(h:(E++(B++C)).Nodup):E.Nodup/\B.Nodup/\C.Nodup/\(∀a,a∈E->a∈B->False)/\(∀a,a∈E->a∈C->False)/\(∀a,a∈B->a∈C->False):=by
 obtain⟨J,K,H⟩:=Qqn h;obtain⟨L,M,O⟩:=Qqn K;exact⟨J,L,M,λa F G=>H a F (At0.2 (.inl G)),λa F G=>H a F (At0.2 (.inr G)),O⟩
theorem Qqq{b:Nat}{E B C:List Nat}(h:b∉E++(B++C)):b∉E/\b∉B/\b∉C:=⟨(Qqd h).1,Qqd (Qqd h).2⟩
theorem Qil{w:Bh}{n m:Int}(h:Qqm n)(e:m=n):Ow .int w [I Z n] m []:=by subst e;exact⟨rfl,h,rfl⟩
theorem Ow.at{t:Ty}{w:Bh}{vs:List Bk}{y B:t.den}{F:List Nat}(h:Ow t w vs y F)(e:B=y):Ow t w vs B F:=by subst e;exact h
def Q9(b off n:Nat)(w w':Bh):Prop:=
 ∀cur T,w.heap[b]?=R (.cells cur T (0,0))->∃cur',w'.heap[b]?=R (.cells cur' T (0,0))/\cur'.size=cur.size/\∀j,(j<off\/off+n<=j)->cur'[j]?=cur[j]?
theorem Q9.refl(b B n:Nat)(w:Bh):Q9 b B n w w:=λC _ h=>⟨C,h,rfl,λ_ _=>rfl⟩
theorem Q9.set{b B n:Nat}{a w:Bh}(h:Q9 b B n a w)(q:Nat)(K:B<=q/\q<B+n)(v:Bk):Q9 b B n a (w.setCell ⟨b,q,N⟩ v):=by
 intro C T E;obtain⟨L,F,G,H⟩:=h C T E;refine⟨_,Z2 F,by simpa using G,λj J=> ?_⟩;rw[Array.getElem?_setIfInBounds,if_neg (by omega)];exact H j J
theorem Q9.fr{b B n:Nat}{a w w':Bh}{X:Nat->Prop}(h:Q9 b B n a w)(k:Q1 X w w')(hX:¬X b):Q9 b B n a w':=by
 intro E T F;obtain⟨G,C,H,J⟩:=h E T F;exact⟨G,by rw[k.block b (Al.1 C).1 hX];exact C,H,J⟩
theorem Q1.cell{X:Nat->Prop}{w w':Bh}(k:Q1 X w w'){b:Nat}(B:b<w.heap.size)(hX:¬X b)(q:Nat):w'.cell? ⟨b,q,N⟩=w.cell? ⟨b,q,N⟩:=
 World.cell?_of_block (w:=w) (k.block b B hX)
theorem Q1.frozen{X:Nat->Prop}{w w':Bh}(k:Q1 X w w'){b:Nat}(B:b<w.heap.size)(hX:¬X b)(q:Nat):w'.frozen? ⟨b,q,N⟩=w.frozen? ⟨b,q,N⟩:=
 World.frozen?_of_block (w:=w) (k.block b B hX)
theorem Ow.focus{e:Ty}{w:Bh}{p:Option Cm}{n H:Nat}{ys:List e.den}{F:List Nat}(h:Ow (.slice e) w [A p n H] ys F)(m:F.Nodup)(i:Nat)(J:i<ys.length):
  ∃b o us G,p=R ⟨b,o,N⟩/\b∈F/\b<w.heap.size/\(∀c∈G,c∈F)/\G.Nodup/\b∉G/\us.length=e.sz/\Qqw w b (o+i * e.sz) us/\(∀q,w.frozen? ⟨b,q,N⟩=Bm)/\Ow e w us ys[i] G/\
   ∀(w2:Bh) (us':List Bk) (y:e.den),Q1 (λc=>c=b\/c∈G) w w2->Q9 b (o+i * e.sz) e.sz w w2->Qqw w2 b (o+i * e.sz) us'->Ow e w2 us' y G->Ow (.slice e) w2 [A p n H] (ys.set i y) F:=by
 obtain⟨r,s,h⟩:=h;obtain rfl:A p n H=r:=by simpa using s
 rcases h with⟨t,_⟩|⟨b,o,AC,L,T,C,Y,u,U,M,v,x,z,V⟩
 ·rw[t]at J;simp at J
 ·simp only[Value.slice.injEq]at Y
  obtain⟨rfl,rfl,rfl⟩:=Y;have a:o+i * e.sz+e.sz<=L.size:=by
   have K:i * e.sz+e.sz<=H * e.sz:=by rw[<-Dq];exact Bd _ (by omega)
   omega
  have A0:b<w.heap.size:=(Al.1 M).1;subst x;have W:=Ar.1 m;have X:∀j,j<ys.length->∀c∈C.getD j [],c∈C.flatten:=λj B c E=>Zu (by omega) E;have d:=List.pairwise_flatten.1 W.2;have hG:(C.getD i []).Nodup:=d.1 _ (Qgu (by omega));refine⟨b,o,Q25 L (o+i * e.sz) e.sz,C.getD i [],rfl,Ae,A0,λc E=>Aa _ (X i J c E),hG,λU=>W.1 (X i J b U),Q1w a,Q58 M _ _ a,λq=>by simp[World.frozen?,M],V i J, ?_⟩;intro w2 us' y A1 A2 A3 f;have AD:=f.length;obtain⟨O,g,A4,A5⟩:=A2 L T M;have A6:Q25 O (o+i * e.sz) e.sz=us':=by
   apply Du;intro j;unfold Q25;rw[Cu];by_cases B:j<e.sz
   ·rw[if_pos B,Ct,Array.getElem?_toList]
    have:=A3 j (by omega);simp only[Er,g]at this;simp only[Option.isSome_none,Bool.false_eq_true,if_false]at this;rw[this,Ad (by omega)]
   ·rw[if_neg B,El (by omega)]
  have A7:∀q,q+e.sz<=o+i * e.sz\/o+i * e.sz+e.sz<=q->Q25 O q e.sz=Q25 L q e.sz:=by
   intro q hq;apply Du;intro j;unfold Q25;rw[Cu,Cu];by_cases B:j<e.sz
   ·rw[if_pos B,if_pos B,Ct,Ct,Array.getElem?_toList,Array.getElem?_toList]
    exact A5 _ (by omega)
   ·rw[if_neg B,if_neg B]
  refine⟨_,rfl,.inr ⟨b,o,H,O,T,C,by rw[Br],by rw[Br];exact u,U,g,by rw[A4];exact v,rfl,by rw[Br];exact z,λj B=> ?_⟩⟩;rw[Br]at B;show Ow e w2 (Q25 O (o+j * e.sz) e.sz) _ _;by_cases P:i=j
  ·subst P
   rw[A6];simpa using f
  ·rw[A7 _ (by
    rcases En P with h|h
    ·right
     have:i * e.sz+e.sz<=j * e.sz:=by rw[<-Dq];exact Bd _ h
     omega
    ·left
     have:j * e.sz+e.sz<=i * e.sz:=by rw[<-Dq];exact Bd _ h
     omega),List.getElem_set_ne P]
   refine(V j B).kept λc E=> ?_;have A8:=X j B c E;have A9:c≠b:=λe=>W.1 (e▸A8);have AA:c∉C.getD i []:=by
    intro k;have K:i<C.length:=by omega
    have S:j<C.length:=by omega
    have l:=List.pairwise_iff_getElem.1 d.2;rcases En P with h|h
    ·have:=l i j K S h c (by rwa [Ab,Ad K]at k) c (by rwa [Ab,Ad S]at E)
     exact this rfl
    ·have:=l j i S K h c (by rwa [Ab,Ad S]at E) c (by rwa [Ab,Ad K]at k)
     exact this rfl
   have AB:c<w.heap.size:=(V j B).lt c E;exact A1.block c AB (by rintro(h|h);exact A9 h;exact AA h)
theorem Qdq{w:Bh}{b o:Nat}{B:Bk}(C:w.cell? ⟨b,o,N⟩=R B):Qqw w b o [B]:=by
 intro j E;match j,E with
 |0,_=>exact C
theorem Q5g{w:Bh}{b o:Nat}{B v1:Bk}(C:w.cell? ⟨b,o,N⟩=R B)(E:w.cell? ⟨b,o+1,N⟩=R v1):Qqw w b o [B,v1]:=by
 intro j F;match j,F with
 |0,_=>exact C
 |1,_=>exact E
theorem Q81{w:Bh}{b o:Nat}{B v1 C E:Bk}(F:w.cell? ⟨b,o,N⟩=R B)(G:w.cell? ⟨b,o+1,N⟩=R v1)(H:w.cell? ⟨b,o+2,N⟩=R C)(J:w.cell? ⟨b,o+3,N⟩=R E):Qqw w b o [B,v1,C,E]:=by
 intro j K;match j,K with
 |0,_=>exact F
 |1,_=>exact G
 |2,_=>exact H
 |3,_=>exact J
theorem Q11{w:Bh}{b o:Nat}{B v1 C E F:Bk}(G:w.cell? ⟨b,o,N⟩=R B)(H:w.cell? ⟨b,o+1,N⟩=R v1)(J:w.cell? ⟨b,o+2,N⟩=R C)(K:w.cell? ⟨b,o+3,N⟩=R E)(L:w.cell? ⟨b,o+4,N⟩=R F):Qqw w b o [B,v1,C,E,F]:=by
 intro j M;match j,M with
 |0,_=>exact G
 |1,_=>exact H
 |2,_=>exact J
 |3,_=>exact K
 |4,_=>exact L
theorem Qp4{w:Bh}{b o:Nat}{B v1 C E F G H:Bk}(J:w.cell? ⟨b,o,N⟩=R B)(K:w.cell? ⟨b,o+1,N⟩=R v1)(L:w.cell? ⟨b,o+2,N⟩=R C)(M:w.cell? ⟨b,o+3,N⟩=R E)(O:w.cell? ⟨b,o+4,N⟩=R F)(P:w.cell? ⟨b,o+5,N⟩=R G)(S:w.cell? ⟨b,o+6,N⟩=R H):Qqw w b o [B,v1,C,E,F,G,H]:=by
 intro j T;match j,T with
 |0,_=>exact J
 |1,_=>exact K
 |2,_=>exact L
 |3,_=>exact M
 |4,_=>exact O
 |5,_=>exact P
 |6,_=>exact S
def Qqz(n lo hi:Int):Bool:=decide (lo<=n) && decide (n<=hi)
theorem Ql{n B C:Int}:Qqz n B C=Bn↔B<=n/\n<=C:=by simp[Qqz]
theorem Q0h{n B C:Int}:Qqz n B C=Bm↔¬(B<=n/\n<=C):=by
 rw[<-Ql];cases Qqz n B C<;>simp
def Q20(k:Int):Bool:=Qqz k 1 12
def Y1(k:Int):Bool:=k==2||k==3||k==4||k==7||k==8||k==9||k==10||k==11||k==12
def Q3o(k:Int):Bool:=k==3||k==7||k==8||k==10||k==11
def Zy(k l:Int):Bool:=if Y1 k then Qqz l 0 8 else Q20 k && l==0
def Q2r(label k l:Int):Bool:=Qqz label 0 8 && Zy k l && (k==6||k==12||(Y1 k && decide (label<l)))
def Q0b(k f:Int):Int:=
 if k==9 then(if Qqz f 0 3 then 1+f else 0)
 else if f !=0 then 0
 else if k==1||k==5||k==6||k==12 then 1
 else if k==8||k==10||k==11 then 2
 else if k==2||k==3||k==4||k==7 then 3
 else 0
def V9(ka la kb lb:Int):Int:=
 if ka==5 then 4
 else if ka==4 then(if kb==4 && la==lb then 2 else if Q2r la kb lb then 3 else 0)
 else if ka==2 then(if kb==3 && la==lb then 1 else 0)
 else if ka==6 then(if kb==7||kb==8 then 5 else if kb==11 then 6 else 0)
 else if ka==9 then(if kb==10 then 6 else 0)
 else if ka==12 then(if Q3o kb then 7 else 0)
 else 0
def Q4t(ka la kb lb:Int):Bool:=Zy ka la && Zy kb lb && ka !=1 && kb !=1
def Yx(ka la kb lb:Int):Int:=
 if Q4t ka la kb lb then
  if V9 ka la kb lb !=0 then V9 ka la kb lb else if V9 kb lb ka la !=0 then V9 kb lb ka la else 8
 else 0
def V2(ka la kb lb:Int):Int:=
 if Q4t ka la kb lb then(if V9 ka la kb lb !=0 then 1 else if V9 kb lb ka la !=0 then 2 else 0)else 0
def Q23(b:Bool):Int:=if b then 1 else 0
def Q3r(n:Int):Bool:=Qqz n 0 23
theorem Q7t{k:Int}(h:Q20 k=Bn):k=1\/k=2\/k=3\/k=4\/k=5\/k=6\/k=7\/k=8\/k=9\/k=10\/k=11\/k=12:=by
 have:=Ql.1 h;omega
theorem Qa4(k:Int):(Q20 k && k !=1 && k !=5 && k !=6)=Y1 k:=by
 by_cases h:Q20 k=Bn
 ·rcases Q7t h with rfl|rfl|rfl|rfl|rfl|rfl|rfl|rfl|rfl|rfl|rfl|rfl<;>rfl
 ·have E:¬(1<=k/\k<=12):=λB=>h (Ql.2 B)
  have C:Q20 k=Bm:=by simpa using h
  rw[C];simp only[Bool.false_and,Y1];symm;simp only[Bool.or_eq_false_iff,beq_eq_false_iff_ne];omega
theorem Qcg{k:Int}(h:Y1 k=Bn):Q20 k=Bn:=by
 rw[<-Qa4]at h;simp only[Bl]at h;exact h.1.1.1
theorem Qin(k l:Int):(Q20 k && (l==0||(Y1 k && Qqz l 0 8)))=Zy k l:=by
 unfold Zy;by_cases h:Y1 k=Bn
 ·rw[if_pos h,h,Qcg h]
  by_cases B:l=0
  ·subst B;rfl
  ·simp[B]
 ·rw[if_neg h]
  have C:Y1 k=Bm:=by simpa using h
  simp[C]
theorem Qcb(a k l:Int):(if !(Qqz a 0 8)|| !(Zy k l)then Bm else(k==6||(k==12||(Y1 k && decide (a<l)))))=Q2r a k l:=by
 unfold Q2r;cases Qqz a 0 8<;>cases Zy k l<;>cases Y1 k<;>simp[Bool.or_assoc]
def Qr5(n:Int):Int:=IntKind.i32.wrap n
theorem Q8d(n:Int): -2147483648<=Qr5 n/\Qr5 n<=2147483647:=by unfold Qr5;rw[IntKind.wrap_i32];omega
theorem Qn8(n:Int):wrap64 (wrap32 (IntKind.u64.wrap n%4294967296))=Qr5 n:=by
 unfold Qr5;simp only[wrap64,wrap32,IntKind.wrap_i32,IntKind.wrap_u64];omega
theorem Qku(n:Int):wrap64 (wrap32 n)=Qr5 n:=by
 unfold Qr5;simp only[wrap64,wrap32,IntKind.wrap_i32];omega
def Jd(op a b:Int):Int:=
 if op==1 then Qr5 (Qr5 a+Qr5 b)
 else if op==2 then Qr5 (Qr5 a-Qr5 b)
 else if op==3 then Qr5 (wrap64 (Qr5 a * Qr5 b))
 else if op==4 then(if Qr5 b==0 then 0 else Qr5 (wrap64 ((Qr5 a).tdiv (Qr5 b))))
 else if op==5 then Q23 (decide (Qr5 a<Qr5 b))
 else if op==6 then Q23 (Qr5 a==Qr5 b)
 else 0
theorem Vk{a b:Bool}(h:a=b):Ending.returned (.bool a)=.returned (.bool b):=by rw[h]
def Qq8:(t:Ty)->t.den->List Bk
 | .int,n=> [I Z n]
 | .bool,b=> [.bool b]
 | .pair a b,x=>Qq8 a x.1++Qq8 b x.2
 | .slice _,_=> []
theorem Q51:(t:Ty)->(x:t.den)->t.flat=Bn->(Qq8 t x).length=t.sz
 | .int,_,_=>rfl
 | .bool,_,_=>rfl
 | .pair a b,x,h=>by simp only[Ty.flat,Bl]at h;simp[Qq8,Ty.sz,Q51 a x.1 h.1,Q51 b x.2 h.2]
theorem Q5r:(t:Ty)->(x:t.den)->∀u∈Qq8 t x,u.oneCell'=Bn
 | .int,_,u,h=>by simp[Qq8]at h;subst h;rfl
 | .bool,_,u,h=>by simp[Qq8]at h;subst h;rfl
 | .pair a b,x,u,h=>by simp only[Qq8,List.mem_append]at h;exact h.elim (Q5r a x.1 u) (Q5r b x.2 u)
 | .slice _,_,_,h=>by simp[Qq8]at h
def Q4e:(t:Ty)->t.den->Prop
 | .int,n=>Qqm n
 | .bool,_=>True
 | .pair a b,x=>Q4e a x.1/\Q4e b x.2
 | .slice e,xs=>∀x:e.den,x∈(show List e.den from xs)->Q4e e x
theorem Rd.enc: {t:Ty}-> {w:Bh}-> {vs:List Bk}-> {x:t.den}->t.flat=Bn->Rd t w vs x->vs=Qq8 t x/\Q4e t x
 | .int,_,_,_,_,h=>⟨h.1,h.2⟩
 | .bool,_,vs,b,_,h=>⟨h,trivial⟩
 | .pair a b,_,_,_,hf,⟨v1,v2,e,h1,h2⟩=>by simp only[Ty.flat,Bl]at hf;obtain⟨B,f1⟩:=Rd.enc hf.1 h1;obtain⟨C,f2⟩:=Rd.enc hf.2 h2;exact⟨by rw[e,B,C];rfl,f1,f2⟩
theorem Ow.of_enc: {t:Ty}->(w:Bh)-> {x:t.den}->t.flat=Bn->Q4e t x->Ow t w (Qq8 t x) x []
 | .int,_,_,_,h=>⟨rfl,h,rfl⟩
 | .bool,_,_,_,_=>⟨rfl,rfl⟩
 | .pair a b,w,x,hf,h=>by simp only[Ty.flat,Bl]at hf;exact⟨_,_,[],[],rfl,rfl,Ow.of_enc w hf.1 h.1,Ow.of_enc w hf.2 h.2⟩
def Q8p(t:Ty)(xs:List t.den):List Bk:=xs.flatMap (Qq8 t)
theorem Q3w{t:Ty}(h:t.flat=Bn)(xs:List t.den):(Q8p t xs).length=xs.length * t.sz:=by
 induction xs with
 |nil=>simp[Q8p]
 |cons x r ih=>unfold Q8p at ih⊢;rw[Gq,Bo,ih,Q51 t x h,Bs,Dq];omega
theorem Qei{t:Ty}(h:t.flat=Bn)(xs:List t.den)(i:Nat)(C:i<xs.length):((Q8p t xs).drop (i * t.sz)).take t.sz=Qq8 t xs[i]:=by
 induction xs generalizing i with
 |nil=>simp at C
 |cons x r ih=>
  have B:=Q51 t x h;unfold Q8p at ih⊢;rw[Gq];cases i with
  |zero=>simp[<-B]
  |succ i=>rw[Dq,Nat.add_comm,<-List.drop_drop,<-B,List.drop_left,B];exact ih i (by simpa using C)
theorem Qmy{t:Ty}(h:t.flat=Bn)(F:0<t.sz)(xs:List t.den)(j:Nat)(u:Bk)(C:(Q8p t xs)[j]?=R u):
  ∃(B:j / t.sz<xs.length),(Qq8 t xs[j / t.sz])[j%t.sz]?=R u:=by
 have E:=(Ef.1 C).1;rw[Q3w h]at E;have B:j / t.sz<xs.length:=Nat.div_lt_of_lt_mul (by rw[Nat.mul_comm];exact E);refine⟨B, ?_⟩;rw[<-Qei h xs _ B,Cu,if_pos (Nat.mod_lt _ F),Ct];rw[show j / t.sz * t.sz+j%t.sz=j from by rw[Nat.mul_comm];exact Nat.div_add_mod j t.sz];exact C
theorem Qnv.cells{t:Ty}{w:Bh}{v:Bk}{xs:List t.den}(E:t.flat=Bn)(F:0<t.sz)(h:Rd (.slice t) w [v] xs):
  (v=A N 0 0/\xs=[])\/∃b o B,v=A (R ⟨b,o,N⟩) xs.length B/\∀j u,(Q8p t xs)[j]?=R u->w.cell? ((⟨b,o,N⟩:Cm).add j)=R u:=by
 rcases Yz h with h|⟨b,o,B,hv,hl,C,hi⟩
 ·exact .inl h
 ·refine .inr ⟨b,o,B,hv,λj u G=> ?_⟩
  obtain⟨H,J⟩:=Qmy E F xs j u G;obtain⟨cs,O,K,L⟩:=hi _ H;obtain⟨rfl,_⟩:=L.enc E;have C:=(Ef.1 J);have:=K (j%t.sz) C.1;rw[C.2]at this;have M:(⟨b,o,N⟩:Cm).add j=⟨b,o+j / t.sz * t.sz+j%t.sz,N⟩:=by
   have:o+j / t.sz * t.sz+j%t.sz=o+j:=by rw[Nat.add_assoc,Nat.mul_comm,Nat.div_add_mod]
   rw[this];unfold Addr.add;split<;>simp_all
  rw[M];exact this
theorem Qnv.fits{t:Ty}{w:Bh}{v:Bk}{xs:List t.den}(B:t.flat=Bn)(h:Rd (.slice t) w [v] xs):Q4e (.slice t) xs:=by
 obtain⟨p,H,_,_,_,C⟩:=(Yz h).gen;intro x E;obtain⟨j,F,rfl⟩:=Av.1 E;obtain⟨b,o,_,cs,_,_,G⟩:=C j F;exact(G.enc B).2
def Qqe(t:Ty)(e:Cf)(B:Nat)(w:Bh)(v:Bk)(xs:List t.den):Prop:=w.ownsRow B e t.sz v xs.length (Q8p t xs)/\Q4e (.slice t) xs
theorem Qqe.new{t:Ty}{e:Cf}{B:Nat}{w:Bh}{v:Bk}{xs:List t.den}(h:Qqe t e B w v xs)(F:t.flat=Bn):Qqa (.slice t) B w [v] xs:=by
 obtain⟨h,J⟩:=h;rcases h.2 with⟨rfl,E⟩|⟨g,K,G,rfl,L,H,E,M,O,P⟩
 ·have:xs=[]:=List.eq_nil_of_length_eq_zero E
  subst this;exact⟨[],⟨_,rfl,.inl ⟨rfl,rfl,N,rfl,by simp⟩⟩,by simp,by simp⟩
 ·have S:g<w.heap.size:=(Al.1 H).1
  refine⟨[g],⟨_,rfl,.inr ⟨g,0,K,G,e,Cl xs.length [],rfl,E,M,H,by rw[O];omega,by simp,by simp,λi C=> ?_⟩⟩,by simp,by simp;exact⟨L,S⟩⟩;rw[Cd];have T:(G.toList.drop (i * t.sz)).take t.sz=Qq8 t xs[i]:=by
   rw[<-Qei F xs i C,<-P,List.drop_take,List.take_take];congr 1
   have:i * t.sz+t.sz<=xs.length * t.sz:=by rw[<-Dq];exact Bd _ C
   omega
  rw[T];have U:(Cl xs.length ([]:List Nat)).getD i []=[]:=by rw[Ab,List.getElem?_replicate];simp[C]
  rw[U];exact Ow.of_enc w F (J _ (As C))
theorem Qqe.empty(t:Ty)(e:Cf)(B:Nat)(w:Bh):Qqe t e B w (A N 0 0) []:=⟨World.ownsRow_nil w B e t.sz,λx C=>by simp at C⟩
theorem Q3d{P:Eq}(w:Bh){t:Ty}(J:t.flat=Bn)(M:0<t.sz)(B:Nat)(C O e:Cf)(i:TypeInfo)(z:Bk)(E:Nat)(K:P.underlying C=R (.slice e))(L:P.info? e=R i)(V:i.zero=R z)
  (W:i.size=t.sz) (X:i.bytes=E) (Y:z.cells.size=t.sz) (a:E<=100) {v u:Bk} {xs ys:List t.den} (F:Qqe t e B w v xs) (S:Rd (.slice t) w [u] ys) (c:xs.length+ys.length<=1000000000) (f:B<=w.heap.size):
  ∃G w',(Builtin.append_ #[C,C] O #[v,u]).run P w=.ok G w'/\Qqe t e B w' G (xs++ys)/\w.grownBy w' v.ownBlock:=by
 have h:=Qnv.fits J S;have j:Q4e (.slice t) (xs++ys):=λx H=>(At0.1 H).elim (F.2 x) (h x);rcases Qnv.cells J M S with⟨rfl,rfl⟩|⟨b,o,T,rfl,k⟩
 ·refine⟨v,w, ?_,by rw[Co];exact F,⟨rfl,rfl,rfl,Aj _,λ_ _ _=>rfl⟩⟩
  rcases F.1.2 with⟨rfl,U⟩|⟨g,T,r,rfl,s,y,U,A0,A1,A2⟩
  ·simp[Builtin.append_,run_underlying K,sizeOf,typeInfo,L,Builtin.lenOf,Builtin.firstCells,loadCells,loadCellsFrom]
  ·simp[Builtin.append_,run_underlying K,sizeOf,typeInfo,L,Builtin.lenOf,Builtin.firstCells,loadCells,loadCellsFrom,U]
   rfl
 ·have l:(Q8p t ys).length=ys.length * t.sz:=Q3w J ys
  obtain⟨G,w',m,n,p,_⟩:=run_append_own (P:=P) w B C O e i z t.sz E K L V W X Y M v xs.length (Q8p t xs) F.1 ⟨b,o,N⟩ ys.length T (Q8p t ys) l k
   (λx H=>by unfold Q8p at H;obtain⟨d,_,q⟩:=List.mem_flatMap.1 H;exact Q5r t d x q) (by unfold Bp;omega)
   (by have:(xs.length+ys.length) * E<=1000000000 * 100:=Nat.mul_le_mul c a;omega) f
  refine⟨G,w',m,⟨?_,j⟩,p⟩;rw[Bo];have:Q8p t (xs++ys)=Q8p t xs++Q8p t ys:=by unfold Q8p;rw[List.flatMap_append]
  rw[this];exact n
theorem Qi{P:Eq}(w:Bh){F:Array Oper}{rest:List Oper}{o:Oper}{a:Act}{Q:Exit->Act->Bh->Prop}(G:o.guard=N)(s x:Operand)(C:Cf)
  (H:o.op=Op.call {callee:=Callee.builtin Builtin.append,args:=#[s,x],argTypes:=#[C,C]}) {t:Ty} (hf:t.flat=Bn) (hs0:0<t.sz) (B:Nat) (e:Cf) (i:TypeInfo) (z:Bk) (bytes:Nat) (ht:P.underlying C=R (.slice e)) (hi:P.info? e=R i) (hz:i.zero=R z)
  (hsize:i.size=t.sz) (hby:i.bytes=bytes) (hzs:z.cells.size=t.sz) (hb:bytes<=100) {v u:Bk} {xs ys:List t.den} (hv:a.eval s=v) (hu:a.eval x=u) (hown:Qqe t e B w v xs) (hrd:Rd (.slice t) w [u] ys) (hlen:xs.length+ys.length<=1000000000) (hB:B<=w.heap.size)
  (hK:∀E w',Qqe t e B w' E (xs++ys)->w.grownBy w' v.ownBlock->wpList P F Q rest (a.put o.dst E) w'):wpList P F Q (o::rest) a w:=by
 refine wpList_plain G λK J=> ?_;obtain⟨E,w',L,M,O⟩:=Q3d (P:=P) w hf hs0 B C o.type e i z bytes ht hi hz hsize hby hzs hb hown hrd hlen hB;unfold Oper.wp;simp[execOp,H,resolve,invoke,builtin,hv,hu,L,Result.andThen];exact J _ _ (hK E w' M O)
theorem Q3x:(prog.info? 2).map (λi=>(i.zero,i.size,i.bytes))=R (R (I Z 0),1,8):=by kernel_rfl
theorem Q02(w:Bh)(v:Bk)(xs:(Ty.slice Ty.int).den)(h:Rd (Ty.slice Ty.int) w [v] xs)(W:Bx xs<=100000000):
  Bq prog 117 #[v] w (Qhp (Ty.slice Ty.int) w xs):=by
 obtain⟨F,G,J,K,L⟩:=Ch Q3x;have H:=qh h;rcases Yz h with⟨rfl,rfl⟩|⟨b,o,X,rfl,Y,a,_⟩
 ·clear h H
  have M:=Dg (P:=prog) w;go_enter func117,ntmps117;go_wp2;go_ret;exact⟨_,rfl,(Qqe.empty Ty.int 2 w.heap.size w).new rfl,Ai _ _⟩
 ·clear h
  have M:=λ(w:Bh)=>Dg (P:=prog) w;have B:Qqe Ty.int 2 w.heap.size (w.alloc (.cells #[] 2)) (A (R ⟨w.heap.size,0,N⟩) 0 0) []:=⟨Fi w #[] 0 (Aj _) (Ak _) (by simp),λx O=>by simp at O⟩;have S:=qh B;clear B;go_enter func117,ntmps117;go_wp2_with(at_builtin;refine Qi _ rfl (.tmp 5) (.tmp 6) 63 rfl (t:=Ty.int) (v:=A (R ⟨w.heap.size,0,N⟩) 0 0) rfl (by decide) w.heap.size 2 F _ 8 underlying63 G J K L rfl (by decide) rfl rfl S.o (Rd.kept H.o (Am (by go_grown))) (by simp;omega) (by simp) ?_;intro v1 w1 C E)
  have T:=qh C;have U:=qh E;clear C E;go_wp2;go_ret;refine⟨_,rfl,by have:=T.o.new rfl;simpa using this, ?_⟩;exact Below.grown ((Ai _ _).alloc (Aj _) _) U.o (by simp) (by intro k V;simp[Di]at V;omega)
theorem Q7l:(prog.info? 185).map (λi=>(i.zero,i.size,i.bytes))=R (R (Cz #[I Z 0,I Z 0]),2,16):=by kernel_rfl
theorem Q9l(w:Bh)(v:Bk)(xs:(Ty.slice Q4).den)(h:Rd (Ty.slice Q4) w [v] xs)(W:Bx xs<=100000000):
  Bq prog 270 #[v] w (Qhp (Ty.slice Q4) w xs):=by
 obtain⟨F,G,J,K,L⟩:=Ch Q7l;have H:=qh h;rcases Yz h with⟨rfl,rfl⟩|⟨b,o,X,rfl,Y,a,_⟩
 ·clear h H
  have M:=Dg (P:=prog) w;go_enter func270,ntmps270;go_wp2;go_ret;exact⟨_,rfl,(Qqe.empty Q4 185 w.heap.size w).new rfl,Ai _ _⟩
 ·clear h
  have M:=λ(w:Bh)=>Dg (P:=prog) w;have B:Qqe Q4 185 w.heap.size (w.alloc (.cells #[] 185)) (A (R ⟨w.heap.size,0,N⟩) 0 0) []:=⟨Fi w #[] 0 (Aj _) (Ak _) (by simp),λx O=>by simp at O⟩;have S:=qh B;clear B;go_enter func270,ntmps270;go_wp2_with(at_builtin;refine Qi _ rfl (.tmp 5) (.tmp 6) 126 rfl (t:=Q4) (v:=A (R ⟨w.heap.size,0,N⟩) 0 0) rfl (by decide) w.heap.size 185 F _ 16 underlying126 G J K L rfl (by decide) rfl rfl S.o (Rd.kept H.o (Am (by go_grown))) (by simp;omega) (by simp) ?_;intro v1 w1 C E)
  have T:=qh C;have U:=qh E;clear C E;go_wp2;go_ret;refine⟨_,rfl,by have:=T.o.new rfl;simpa using this, ?_⟩;exact Below.grown ((Ai _ _).alloc (Aj _) _) U.o (by simp) (by intro k V;simp[Di]at V;omega)
theorem Vx:(prog.info? 40).map (λi=>(i.zero,i.size,i.bytes))=R (R (Cz #[I Z 0,I Z 0]),2,16):=by kernel_rfl
theorem Q97(w:Bh)(v:Bk)(xs:(Ty.slice Q4).den)(h:Rd (Ty.slice Q4) w [v] xs)(W:Bx xs<=100000000):
  Bq prog 175 #[v] w (Qhp (Ty.slice Q4) w xs):=by
 obtain⟨F,G,J,K,L⟩:=Ch Vx;have H:=qh h;rcases Yz h with⟨rfl,rfl⟩|⟨b,o,X,rfl,Y,a,_⟩
 ·clear h H
  have M:=Dg (P:=prog) w;go_enter func175,ntmps175;go_wp2;go_ret;exact⟨_,rfl,(Qqe.empty Q4 40 w.heap.size w).new rfl,Ai _ _⟩
 ·clear h
  have M:=λ(w:Bh)=>Dg (P:=prog) w;have B:Qqe Q4 40 w.heap.size (w.alloc (.cells #[] 40)) (A (R ⟨w.heap.size,0,N⟩) 0 0) []:=⟨Fi w #[] 0 (Aj _) (Ak _) (by simp),λx O=>by simp at O⟩;have S:=qh B;clear B;go_enter func175,ntmps175;go_wp2_with(at_builtin;refine Qi _ rfl (.tmp 5) (.tmp 6) 132 rfl (t:=Q4) (v:=A (R ⟨w.heap.size,0,N⟩) 0 0) rfl (by decide) w.heap.size 40 F _ 16 underlying132 G J K L rfl (by decide) rfl rfl S.o (Rd.kept H.o (Am (by go_grown))) (by simp;omega) (by simp) ?_;intro v1 w1 C E)
  have T:=qh C;have U:=qh E;clear C E;go_wp2;go_ret;refine⟨_,rfl,by have:=T.o.new rfl;simpa using this, ?_⟩;exact Below.grown ((Ai _ _).alloc (Aj _) _) U.o (by simp) (by intro k V;simp[Di]at V;omega)
theorem J4:(prog.info? 117).map (λi=>(i.zero,i.size,i.bytes))=R (R (Cz #[I Z 0,I Z 0]),2,16):=by kernel_rfl
theorem Q2s(w:Bh)(v:Bk)(xs:(Ty.slice Q4).den)(h:Rd (Ty.slice Q4) w [v] xs)(W:Bx xs<=100000000):
  Bq prog 115 #[v] w (Qhp (Ty.slice Q4) w xs):=by
 obtain⟨F,G,J,K,L⟩:=Ch J4;have H:=qh h;rcases Yz h with⟨rfl,rfl⟩|⟨b,o,X,rfl,Y,a,_⟩
 ·clear h H
  have M:=Dg (P:=prog) w;go_enter func115,ntmps115;go_wp2;go_ret;exact⟨_,rfl,(Qqe.empty Q4 117 w.heap.size w).new rfl,Ai _ _⟩
 ·clear h
  have M:=λ(w:Bh)=>Dg (P:=prog) w;have B:Qqe Q4 117 w.heap.size (w.alloc (.cells #[] 117)) (A (R ⟨w.heap.size,0,N⟩) 0 0) []:=⟨Fi w #[] 0 (Aj _) (Ak _) (by simp),λx O=>by simp at O⟩;have S:=qh B;clear B;go_enter func115,ntmps115;go_wp2_with(at_builtin;refine Qi _ rfl (.tmp 5) (.tmp 6) 41 rfl (t:=Q4) (v:=A (R ⟨w.heap.size,0,N⟩) 0 0) rfl (by decide) w.heap.size 117 F _ 16 underlying41 G J K L rfl (by decide) rfl rfl S.o (Rd.kept H.o (Am (by go_grown))) (by simp;omega) (by simp) ?_;intro v1 w1 C E)
  have T:=qh C;have U:=qh E;clear C E;go_wp2;go_ret;refine⟨_,rfl,by have:=T.o.new rfl;simpa using this, ?_⟩;exact Below.grown ((Ai _ _).alloc (Aj _) _) U.o (by simp) (by intro k V;simp[Di]at V;omega)
theorem Q0q:(prog.info? 120).map (λi=>(i.zero,i.size,i.bytes))=R (R (Cz #[I Z 0,I Z 0,I Z 0,I Z 0]),4,32):=by kernel_rfl
theorem Qhm{a:Int}(h:Qqm a):(Lit.int Z a).wf=Bn:=by
 unfold Qqm at h;simp[Lit.wf,IntKind.min,IntKind.max,IntKind.signed,IntKind.bits];omega
theorem Q3b{P:Eq}(w:Bh){m:Nat}(T:m<=10000){k:Cf}(G:P.keyTypeAt m k=Bn){x y:Bk}{B C:List Lit}{E:Nat}
  (H:x.formed P k=Bn) (J:y.formed P k=Bn) (K:P.keyLits E k x.cells.toList=R B) (L:P.keyLits E k y.cells.toList=R C) (r:Bool) (M:r=Bn↔B=C):
  (Op.equal k x y).run P w=.ok r w:=by
 obtain⟨O,F,S⟩:=run_equalIn_deep (10000-m) m k G w _ _ x y B C H J K L;have e:10000-m+m=10000:=by omega
 rw[e]at F;have:O=r:=by rw[Bool.eq_iff_iff,S,M]
 rw[<-this];exact F
theorem Q9o{P:Eq}{w:Bh}{k:Cf}{xs ys:Array Bk}{r:Bool}(h:(Op.equal k (.agg xs) (.agg ys)).run P w=.ok r w):(binOp .eql k (.agg xs) (.agg ys)).run P w=.ok (.bool r) w:=by
 show(Sem.bind (Op.equal k (.agg xs) (.agg ys)) λb=>Sem.pure (Value.bool b)).run P w=_;rw[Sem.run_bind',h];rfl
theorem Q3y{P:Eq}{w:Bh}{k:Cf}{xs ys:Array Bk}{r:Bool}(h:(Op.equal k (.agg xs) (.agg ys)).run P w=.ok r w):(binOp .neq k (.agg xs) (.agg ys)).run P w=.ok (.bool !r) w:=by
 show(Sem.bind (Op.equal k (.agg xs) (.agg ys)) λb=>Sem.pure (Value.bool !b)).run P w=_;rw[Sem.run_bind',h];rfl
theorem Q8c{a b:Int}(B:Qqm a)(C:Qqm b):prog.keyLits 2 185 [I Z a,I Z b]=R [Lit.int Z a,Lit.int Z b]:=by
 have E:=Qhm B;have F:=Qhm C;have G:prog.cellsOf 185=2:=by kernel_rfl
 have H:prog.cellsOf 2=1:=by kernel_rfl
 simp[Program.keyLits,underlying185,underlying2,G,H,E,F]
theorem Qbk(w:Bh){a b c d:Int}(B:Qqm a)(C:Qqm b)(E:Qqm c)(F:Qqm d):(Op.equal 185 (.agg #[I Z a,I Z b]) (.agg #[I Z c,I Z d])).run prog w=.ok (a==c && b==d) w:=
 Q3b (m:=2) w (by omega) (by kernel_rfl) (by kernel_rfl) (by kernel_rfl) (Q8c B C) (Q8c E F) _ (by simp)
theorem Qh7{a b c d:Int}(B:Qqm a)(C:Qqm b)(E:Qqm c)(F:Qqm d)(w:Bh):(binOp .eql 185 (.agg #[I Z a,I Z b]) (.agg #[I Z c,I Z d])).run prog w=.ok (.bool (a==c && b==d)) w:=Q9o (Qbk w B C E F)
theorem Qha{a b c d:Int}(B:Qqm a)(C:Qqm b)(E:Qqm c)(F:Qqm d)(w:Bh):(binOp .neq 185 (.agg #[I Z a,I Z b]) (.agg #[I Z c,I Z d])).run prog w=.ok (.bool !(a==c && b==d)) w:=Q3y (Qbk w B C E F)
theorem Q3c{a b:Int}(B:Qqm a)(C:Qqm b):prog.keyLits 2 40 [I Z a,I Z b]=R [Lit.int Z a,Lit.int Z b]:=by
 have E:=Qhm B;have F:=Qhm C;have G:prog.cellsOf 40=2:=by kernel_rfl
 have H:prog.cellsOf 2=1:=by kernel_rfl
 simp[Program.keyLits,underlying40,underlying2,G,H,E,F]
theorem Qb9(w:Bh){a b c d:Int}(B:Qqm a)(C:Qqm b)(E:Qqm c)(F:Qqm d):(Op.equal 40 (.agg #[I Z a,I Z b]) (.agg #[I Z c,I Z d])).run prog w=.ok (a==c && b==d) w:=
 Q3b (m:=2) w (by omega) (by kernel_rfl) (by kernel_rfl) (by kernel_rfl) (Q3c B C) (Q3c E F) _ (by simp)
theorem Qmc{a b c d:Int}(B:Qqm a)(C:Qqm b)(E:Qqm c)(F:Qqm d)(w:Bh):(binOp .eql 40 (.agg #[I Z a,I Z b]) (.agg #[I Z c,I Z d])).run prog w=.ok (.bool (a==c && b==d)) w:=Q9o (Qb9 w B C E F)
theorem Q2j{a b c d:Int}(B:Qqm a)(C:Qqm b)(E:Qqm c)(F:Qqm d)(w:Bh):(binOp .neq 40 (.agg #[I Z a,I Z b]) (.agg #[I Z c,I Z d])).run prog w=.ok (.bool !(a==c && b==d)) w:=Q3y (Qb9 w B C E F)
theorem Q80{a b:Int}(B:Qqm a)(C:Qqm b):prog.keyLits 2 117 [I Z a,I Z b]=R [Lit.int Z a,Lit.int Z b]:=by
 have E:=Qhm B;have F:=Qhm C;have G:prog.cellsOf 117=2:=by kernel_rfl
 have H:prog.cellsOf 2=1:=by kernel_rfl
 simp[Program.keyLits,underlying117,underlying2,G,H,E,F]
theorem Qid(w:Bh){a b c d:Int}(B:Qqm a)(C:Qqm b)(E:Qqm c)(F:Qqm d):(Op.equal 117 (.agg #[I Z a,I Z b]) (.agg #[I Z c,I Z d])).run prog w=.ok (a==c && b==d) w:=
 Q3b (m:=2) w (by omega) (by kernel_rfl) (by kernel_rfl) (by kernel_rfl) (Q80 B C) (Q80 E F) _ (by simp)
theorem Qc4{a b c d:Int}(B:Qqm a)(C:Qqm b)(E:Qqm c)(F:Qqm d)(w:Bh):(binOp .neq 117 (.agg #[I Z a,I Z b]) (.agg #[I Z c,I Z d])).run prog w=.ok (.bool !(a==c && b==d)) w:=Q3y (Qid w B C E F)
theorem Q83{a b c d:Int}(B:Qqm a)(C:Qqm b)(E:Qqm c)(F:Qqm d):prog.keyLits 3 120 [I Z a,I Z b,I Z c,I Z d]=R [Lit.int Z a,Lit.int Z b,Lit.int Z c,Lit.int Z d]:=by
 have G:prog.cellsOf 120=4:=by kernel_rfl
 have H:prog.cellsOf 40=2:=by kernel_rfl
 have J:=Q3c B C;have K:=Q3c E F;unfold Program.keyLits;simp[underlying120,G,H,J,K]
theorem Qgw{a b c d B C E F:Int}(G:Qqm a)(H:Qqm b)(J:Qqm c)(K:Qqm d)(L:Qqm B)(M:Qqm C)(O:Qqm E)(P:Qqm F)(w:Bh):
  (binOp .neq 120 (.agg #[I Z a,I Z b,I Z c,I Z d]) (.agg #[I Z B,I Z C,I Z E,I Z F])).run prog w=.ok (.bool !(a==B && b==C && c==E && d==F)) w:=
 Q3y (Q3b (m:=3) w (by omega) (by kernel_rfl) (by kernel_rfl) (by kernel_rfl) (Q83 G H J K) (Q83 L M O P) _ (by simp[and_assoc]))
def Q0m(w w':Bh):Prop:=∃n,w'=w.drewN n
theorem Q0m.refl(w:Bh):Q0m w w:=⟨0,rfl⟩
theorem Q0m.more{w w':Bh}(h:Q0m w w')(n:Nat):Q0m w (w'.drewN n):=let ⟨m,e⟩:=h;⟨m+n,by rw[e,World.drewN_drewN]⟩
theorem Q0m.trans{a b c:Bh}(h:Q0m a b)(k:Q0m b c):Q0m a c:=by
 obtain⟨n,rfl⟩:=k;exact h.more n
theorem Q0m.below{w w':Bh}(h:Q0m w w'):Bi w.heap.size w w':=by
 obtain⟨n,rfl⟩:=h;exact Q6 (Ai _ _) n
theorem Vq(w:Bh)(v1 T:Bk)(xs ys:(Ty.slice Ty.int).den)(H:Rd (Ty.slice Ty.int) w [v1] xs)(J:Rd (Ty.slice Ty.int) w [T] ys):
  Bq prog 149 #[v1,T] w λe w'=>e=.returned (.bool (Qqu (Ty.slice Ty.int) xs ys))/\Q0m w w':=by
 obtain⟨p,n,rfl,r,c,L⟩:=(Yz H).gen;obtain⟨q,s,rfl,t,d,M⟩:=(Yz J).gen;clear H J;unfold Bp at c d;by_cases C:xs.length=ys.length
 ·have f:((xs.length:Int) !=(ys.length:Int))=Bm:=by simp[C]
  have U:=qh C;clear C;have g:=qh L;clear L;have h:=qh M;clear M;go_enter func149,ntmps149;go_wp2;go_loopw [5] (λi wr=>∃k:Nat,k<=xs.length/\i=I Z k/\D (xs.take k=ys.take k)/\D (Q0m w wr)) (λi _=>xs.length-(Bv i).toNat);case atStart=>exact⟨0,Ak _,rfl,rfl,Q0m.refl _⟩
  case round=>
   obtain⟨k,u,rfl,V,E⟩:=hrel;by_cases K:k<xs.length
   ·have O:k<ys.length:=by rw[<-U.o];exact K
    obtain⟨b,o,rfl,cs,j,F,W⟩:=g.o k K;obtain⟨v,o',rfl,z,l,G,X⟩:=h.o k O;generalize hxk:xs[k]=x at W;generalize hyk:ys[k]=y at X;have Y:=qh hxk;have a:=qh hyk;clear hxk hyk j l;obtain⟨rfl,_⟩:=W;obtain⟨rfl,_⟩:=X;have F:=F.kept (Am E.o.below);have G:=G.kept (Am E.o.below);simp only[Ty.sz,Nat.mul_one]at F G;have c0:=Qac F;have d0:=Qac G;clear F G;by_cases B:x=y
    ·have m:(x !=y)=Bm:=by simp[B]
     have P:=qh B;clear B;go_wp2;go_quiet(fail)
     go_wp2;go_roundw;case rel=>exact⟨k+1,by omega,by go_num,Yb K O V.o (by rw[Y.o,a.o,P.o]),Q0m.more E.o _⟩
     case measure=>simp[Bv];omega
    ·have m:(x !=y)=Bn:=by simp[B]
     have P:=qh B;clear B;go_wp2;go_quiet(fail)
     go_wp2;go_ret;exact⟨Zi (by simp[Y2 K O (by rw[Y.o,a.o];exact P.o)]),Q0m.more E.o _⟩
   ·have H:xs.length<=k:=by omega
    have J:ys.length<=k:=by rw[<-U.o];omega
    have S:=qh (Jc V.o H J);go_wp2;go_ret;exact⟨Zi (by simp[S.o]),E.o⟩
 ·have f:((xs.length:Int) !=(ys.length:Int))=Bn:=by simp;omega
  have S:D (xs≠ys):=qh (λe=>C (by rw[e]));clear C L M;go_enter func149,ntmps149;go_wp2;go_ret;exact⟨Zi (by simp[S.o]),Q0m.refl _⟩
theorem Q6k(w:Bh)(v1 B:Bk)(xs ys:(Ty.slice Ty.int).den)(C:Rd (Ty.slice Ty.int) w [v1] xs)(E:Rd (Ty.slice Ty.int) w [B] ys)(h:xs=ys):
  Bq prog 149 #[v1,B] w λe w'=>e=.returned (.bool Bn)/\∃n,w'=w.drewN n:=
 (Vq w v1 B xs ys C E).mono λe w' ⟨F,hb⟩=>⟨by rw[F,Ju h],hb⟩
theorem Qe8(w:Bh)(v1 B:Bk)(xs ys:(Ty.slice Ty.int).den)(C:Rd (Ty.slice Ty.int) w [v1] xs)(E:Rd (Ty.slice Ty.int) w [B] ys)(h:¬xs=ys):
  Bq prog 149 #[v1,B] w λe w'=>e=.returned (.bool Bm)/\∃n,w'=w.drewN n:=
 (Vq w v1 B xs ys C E).mono λe w' ⟨F,hb⟩=>⟨by rw[F,Vh h],hb⟩
def At(t:Ty)(w:Bh)(b o:Nat)(x:t.den):Prop:=∃cs,cs.length=t.sz/\Qqw w b o cs/\Rd t w cs x
theorem At.kept{t:Ty}{w w':Bh}{b o:Nat}{x:t.den}(h:At t w b o x)(k:Qcx w w'):At t w' b o x:=
 let ⟨cs,h1,h2,h3⟩:=h;⟨cs,h1,h2.kept k,h3.kept k⟩
theorem Q9t(w:Bh)(b o q o':Nat)(x y:Q3.den)(W:At Q3 w b o x)(X:At Q3 w q o' y):
  Bq prog 148 #[.pointer (R ⟨b,o,N⟩),.pointer (R ⟨q,o',N⟩)] w λe w'=>e=.returned (.bool (Qqu Q3 x y))/\Q0m w w':=by
 obtain⟨cs,_,r,⟨_,_,rfl,⟨rfl,i0⟩,_,_,rfl,⟨rfl,i1⟩,_,_,rfl,⟨rfl,i2⟩,_,_,rfl,O,P⟩⟩:=W;obtain⟨A6,_,s,⟨_,_,rfl,⟨rfl,j0⟩,_,_,rfl,⟨rfl,j1⟩,_,_,rfl,⟨rfl,j2⟩,_,_,rfl,S,T⟩⟩:=X;obtain⟨d,rfl,O⟩:=Q04 O;obtain⟨d',rfl,S⟩:=Q04 S;obtain⟨p,rfl,P⟩:=Q04 P;obtain⟨p',rfl,T⟩:=Q04 T;obtain⟨Y,x1,x2,x3,B⟩:=x;obtain⟨a,c,f,y3,E⟩:=y;simp only[Cc,Bt]at *
 obtain⟨c0,c1,c2,c3,t⟩:=Q4b r;obtain⟨e0,e1,e2,e3,u⟩:=Q4b s;have g:=qh O;have h:=qh S;clear O S r s;by_cases q0:Y=a;rotate_left
 ·have v:(Y !=a)=Bn:=by simp[q0]
  have C:=qh q0;clear q0;go_enter func148,ntmps148;go_wp2_with fail
  go_quiet(fail)
  go_wp2;go_ret;exact⟨Zi (by simp[C.o]),⟨_,rfl⟩⟩
 have v:(Y !=a)=Bm:=by simp[q0]
 have A7:=qh q0;clear q0;by_cases q1:x1=c;rotate_left
 ·have z:(x1 !=c)=Bn:=by simp[q1]
  have C:=qh q1;clear q1;go_enter func148,ntmps148;go_wp2_with fail
  go_quiet(fail)
  go_wp2;go_ret;exact⟨Zi (by simp[C.o]),⟨_,rfl⟩⟩
 have z:(x1 !=c)=Bm:=by simp[q1]
 have A8:=qh q1;clear q1;by_cases G:x2=f;rotate_left
 ·have t2:(x2 !=f)=Bn:=by simp[G]
  have C:=qh G;clear G;go_enter func148,ntmps148;go_wp2_with fail
  go_quiet(fail)
  go_wp2;go_ret;exact⟨Zi (by simp[C.o]),⟨_,rfl⟩⟩
 have t2:(x2 !=f)=Bm:=by simp[G]
 have A9:=qh G;clear G;obtain⟨pa,ca,rfl,AG,AA,hw⟩:=(Yz P).gen;obtain⟨pb,cb,rfl,AH,AB,A0⟩:=(Yz T).gen;unfold Bp at AA AB;clear P T;have HW:=qh hw;have AC:=qh A0;clear hw A0;by_cases U:x3=y3;rotate_left
 ·have C:=qh U;clear U
  go_enter func148,ntmps148;go_wp2_with fail
  go_quiet(((go_at_call 149;exact Calls.quiet_of (Qe8 _ _ _ _ _ (g.o.kept (Am (Q6 (Ai _ _) _))) (h.o.kept (Am (Q6 (Ai _ _) _))) C.o))))
  go_wp2;go_ret;exact⟨Zi (by simp[C.o]),⟨_,rfl⟩⟩
 have j:=qh U;clear U;by_cases L:B.length=E.length;rotate_left
 ·have t4:((B.length:Int) !=(E.length:Int))=Bn:=by simp;omega
  have C:D (¬B=E):=qh (λe=>L (by rw[e]));clear L;go_enter func148,ntmps148;go_wp2_with fail
  go_quiet(((go_at_call 149;exact Calls.quiet_of (Q6k _ _ _ _ _ (g.o.kept (Am (Q6 (Ai _ _) _))) (h.o.kept (Am (Q6 (Ai _ _) _))) j.o))))
  go_wp2;go_ret;exact⟨Zi (by simp[C.o]),⟨_,rfl⟩⟩
 have t4:((B.length:Int) !=(E.length:Int))=Bm:=by simp[L]
 have HL:=qh L;clear L;go_enter func148,ntmps148;go_wp2_with fail
 go_quiet(((go_at_call 149;exact Calls.quiet_of (Q6k _ _ _ _ _ (g.o.kept (Am (Q6 (Ai _ _) _))) (h.o.kept (Am (Q6 (Ai _ _) _))) j.o))))
 go_wp2;have AD:D (Q0m w (w.drewN nq)):=qh (⟨_,rfl⟩);generalize w.drewN nq=w0 at *
 go_loopw [5] (λi wr=>∃k:Nat,k<=B.length/\i=I Z k/\D (B.take k=E.take k)/\D (Q0m w wr)) (λi _=>B.length-(Bv i).toNat);case atStart=>exact⟨0,Ak _,rfl,rfl,AD⟩
 case round=>
  obtain⟨k,hk,rfl,HT,F⟩:=hrel;have AI:=(Am F.o.below).cell _ _ t;have AJ:=(Am F.o.below).cell _ _ u;by_cases V:k<B.length
  ·have l:k<E.length:=by rw[<-HL.o];exact V
   obtain⟨b1,o1,rfl,cs,AE,H,A1⟩:=HW.o k V;obtain⟨b2,o2,rfl,A6,AF,J,A2⟩:=AC.o k l;generalize hxk:B[k]=x at A1;generalize hyk:E[k]=y at A2;have A3:=qh hxk;have A4:=qh hyk;clear hxk hyk AE AF;obtain⟨_,_,rfl,⟨rfl,m0⟩,⟨rfl,m1⟩⟩:=A1;obtain⟨_,_,rfl,⟨rfl,n0⟩,⟨rfl,n1⟩⟩:=A2;simp only[Cc,Bt]at H J;have hq:=λw=>Q2j m0 m1 n0 n1 w;have H:=H.kept (Am F.o.below);have J:=J.kept (Am F.o.below);simp only[Ty.sz,Nat.reduceAdd]at H J;obtain⟨f0,f1⟩:=Qcy H;obtain⟨g0,g1⟩:=Qcy J;clear H J m0 m1 n0 n1 c0 c1 c2 c3 t e0 e1 e2 e3 u i0 i1 i2 j0 j1 j2 v z t2 t4;by_cases K:x=y
   ·have M:(x.1==y.1 && x.2==y.2)=Bn:=by simp[K]
    have m:=qh K;clear K;rw[M]at hq;clear M;go_wp2;go_quiet(fail)
    go_wp2;go_roundw;case rel=>exact⟨k+1,by omega,by go_num,Yb V l HT.o (by rw[A3.o,A4.o,m.o]),Q0m.more F.o _⟩
    case measure=>simp[Bv];omega
   ·have M:(x.1==y.1 && x.2==y.2)=Bm:=by rw[Bool.eq_false_iff];intro n;apply K;simp only[Bl,beq_iff_eq]at n;exact Prod.ext n.1 n.2
    have A5:=Y2 V l (by rw[A3.o,A4.o];exact K);have m:=qh A5;clear K A5;rw[M]at hq;clear M;go_wp2;go_quiet(fail)
    go_wp2;go_ret;exact⟨Zi (by simp[m.o]),Q0m.more F.o _⟩
  ·have W:B.length<=k:=by omega
   have X:E.length<=k:=by rw[<-HL.o];omega
   have HN:=qh (Jc HT.o W X);go_wp2;go_ret;exact⟨Zi (by simp[A7.o,A8.o,A9.o,j.o,HN.o]),F.o⟩
theorem Qck(w:Bh)(b o B o':Nat)(x y:Q3.den)(C:At Q3 w b o x)(E:At Q3 w B o' y)(h:x=y):
  Bq prog 148 #[.pointer (R ⟨b,o,N⟩),.pointer (R ⟨B,o',N⟩)] w λe w'=>e=.returned (.bool Bn)/\∃n,w'=w.drewN n:=
 (Q9t w b o B o' x y C E).mono λe w' ⟨F,hb⟩=>⟨by rw[F,Ju h],hb⟩
theorem Qe7(w:Bh)(b o B o':Nat)(x y:Q3.den)(C:At Q3 w b o x)(E:At Q3 w B o' y)(h:¬x=y):
  Bq prog 148 #[.pointer (R ⟨b,o,N⟩),.pointer (R ⟨B,o',N⟩)] w λe w'=>e=.returned (.bool Bm)/\∃n,w'=w.drewN n:=
 (Q9t w b o B o' x y C E).mono λe w' ⟨F,hb⟩=>⟨by rw[F,Vh h],hb⟩
end Go.Proofs.YthbpkpnioaniiaaGreat
