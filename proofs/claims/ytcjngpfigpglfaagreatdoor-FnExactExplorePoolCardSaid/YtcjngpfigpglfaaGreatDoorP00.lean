import Derived.WalkSpells
import Derived.WalkLawsBesides
import Derived.StillTailTactics
import Derived.BigQuiet
import Derived.Handy
import Derived.Test.YtcjngpfigpglfaaGreatDoorRows
import Derived.Shelf.Strconv.AppendIntPublic10
set_option maxHeartbeats 0
set_option maxRecDepth 100000
set_option linter.all false
namespace Go.Proofs.YtcjngpfigpglfaaGreatDoor
open Go.RowKit Go.Proofs.Tryz
open Go.Value renaming int->I,slice->A
open Go.IntKind renaming i64->Z
open Option renaming none->N,some->R
def Hd(p:Prop):Prop:=p
theorem Hd.o{p:Prop}(h:Hd p):p:=h
theorem qh{p:Prop}(h:p):Hd p:=h
theorem D(p:Prop)(h:p):Hd p:=h
abbrev Aa:=@List.mem_cons_of_mem
abbrev Ab:=@List.getD_eq_getElem?_getD
abbrev Ac:=@World.block_lt_of_cell?
abbrev Ad:=@List.getElem?_eq_getElem
abbrev Ae:=@List.mem_cons_self
abbrev Af:=@List.mem_append_right
abbrev Ag:=@List.mem_append_left
abbrev Ai:=@Below.refl
abbrev Aj:=@Nat.le_refl
abbrev Ak:=@Nat.zero_le
abbrev Al:=@Array.getElem?_eq_some_iff
abbrev An:=@List.take_succ_eq_append_getElem
abbrev Ao:=@List.take_of_length_le
abbrev Ap:=@Nat.lt_of_lt_of_le
abbrev Aq:=@List.mem_cons
abbrev Ar:=@List.nodup_cons
abbrev As:=@List.getElem_mem
abbrev At0:=@List.mem_append
abbrev Au:=@Nat.le_trans
abbrev Av:=@List.mem_iff_getElem
abbrev Az:=@Below.heap_alloc
abbrev Ba:=@List.nodup_append
abbrev Bb:=@List.mem_singleton
abbrev Bc:=@List.length_pos_iff
abbrev Bd:=@Nat.mul_le_mul_right
abbrev Be:=@World.size_alloc
abbrev Bf:=@List.all_eq_true
instance{α:Type}:CoeOut (List α) Nat:=⟨List.length⟩
instance:Coe World Nat:=⟨λw=>w.heap.size⟩
instance (w b o v):CoeDep (World×Nat×Nat×Value) (w,b,o,v) Prop:=⟨w.cell? ⟨b,o,none⟩=some v⟩
instance (w W):CoeDep (World×World) (w,W) Prop:=⟨Below w.heap.size w W⟩
instance{p:Prop}:CoeOut (Hd p) p:=⟨Hd.o⟩
instance:Coe Int Value:=⟨λk=>.int .i64 k⟩
instance:Coe Nat Value:=⟨λk=>.int .i64 k⟩
instance:Coe Bool Value:=⟨.bool⟩
instance (b o):CoeDep (Nat×Nat) (b,o) Addr:=⟨⟨b,o,none⟩⟩
instance (w o):CoeDep (World×Nat) (w,o) Addr:=⟨⟨w.heap.size,o,none⟩⟩
instance (b o):CoeDep (Nat×Nat) (b,o) Value:=⟨.pointer (some ⟨b,o,none⟩)⟩
instance (w o):CoeDep (World×Nat) (w,o) Value:=⟨.pointer (some ⟨w.heap.size,o,none⟩)⟩
instance (w b o)(v:Int):CoeDep (World×Nat×Nat×Int) (w,b,o,v) Prop:=⟨w.cell? ⟨b,o,none⟩=some (.int .i64 v)⟩
instance (w b o)(v:Nat):CoeDep (World×Nat×Nat×Nat) (w,b,o,v) Prop:=⟨w.cell? ⟨b,o,none⟩=some (.int .i64 v)⟩
inductive OC|oC(b:Nat)(c:Array Value)(t:TypeId)
inductive OR|oR(w:World)(v:Value)
open OC(oC)
open OR(oR)
instance (w b c t):CoeDep (World×OC) (w,oC b c t) Prop:=⟨w.heap[b]?=some (.cells c t)⟩
instance (w v):CoeDep OR (oR w v) (Ending->World->Prop):=⟨λe w'=>e=.returned v/\Below w.heap.size w w'⟩
open Bool renaming true->Bn,false->Bm,and_eq_true->Bi,false_eq_true->Dc
open Go renaming World->Bh,Value->Bk,maxLen->Bu,Program->Eu,Calls->Bv,Addr->Cp,TypeId->Cd,heap_alloc_new->Bg
open Go.Builtin renaming append_->Fb,zeroCells->Gb
open Go.RowKit renaming Below->Bp
open Go.World renaming setCell->Gn,cell?->Er
open List renaming length->Ca,map_append->Ep,sum_append_nat->Ic,take_append_drop->Fh,map_cons->Ga,mem_flatten->Hg,length_cons->Br,ext_getElem?->Eb,foldl_cons->Cb,length_take->Cf,append_assoc->Co,pairwise_flatten->Dw,getElem?_take->Cm,getElem?_drop->Cu,getElem?_eq_none->Fi,length_set->Bl,getElem_set_ne->Dk,pairwise_iff_getElem->Du,getElem?_eq_some_iff->Ei,replicate->Ch,length_append->Bo,getElem_append_left->Ie,length_drop->Dp,flatten_append->Gu,range->Bz
open Nat renaming not_lt_zero->Dh,succ_mul->Dv,zero_add->Cg,lt_or_gt_of_ne->Et,add_assoc->Hp,add_mul->Hx
inductive Ty where
 |int|bool
 |pair (a b:Ty)
 |slice (e:Ty)
@[reducible] def Ty.den:Ty->Type
 | .int=>Int
 | .bool=>Bool
 | .pair a b=>a.den×b.den
 | .slice e=>List e.den
def Ty.sz:Ty->Nat
 | .int=>1
 | .bool=>1
 | .pair a b=>a.sz+b.sz
 | .slice _=>1
instance Ty.decEq:(t:Ty)->DecidableEq t.den
 | .int=>inferInstanceAs (DecidableEq Int)
 | .bool=>inferInstanceAs (DecidableEq Bool)
 | .pair a b=>have:=Ty.decEq a;have:=Ty.decEq b;inferInstanceAs (DecidableEq (a.den×b.den))
 | .slice e=>have:=Ty.decEq e;inferInstanceAs (DecidableEq (List e.den))
def Qyn(n:Int):Prop:= -9223372036854775808<=n/\n<=9223372036854775807
def Qy2(w:Bh)(b o:Nat)(cs:List Bk):Prop:=∀(j:Nat) (h:j<cs),w.cell? (b,o+j)=R cs[j]
def Qto{α:Type}(rd:List Bk->α->Prop)(sz:Nat)(w:Bh)(v:Bk)(xs:List α):Prop:=
 (v=A N 0 0/\xs=[])\/
 ∃b o cap,v=A (R ⟨b,o,N⟩) xs cap/\xs<=cap/\cap<=Bu/\
  ∀(i:Nat) (h:i<xs),∃cs,cs.length=sz/\Qy2 w b (o+i * sz) cs/\rd cs xs[i]
def Rd:(t:Ty)->Bh->List Bk->t.den->Prop
 | .int,_,vs,n=>vs=[I Z n]/\Qyn n
 | .bool,_,vs,b=>vs=[.bool b]
 | .pair a b,w,vs,x=>∃v1 v2,vs=v1++v2/\Rd a w v1 x.1/\Rd b w v2 x.2
 | .slice e,w,vs,xs=>∃v,vs=[v]/\Qto (Rd e w) e.sz w v xs
theorem Rd.length: {t:Ty}-> {w:Bh}-> {vs:List Bk}-> {x:t.den}->Rd t w vs x->vs=t.sz
 | .int,_,_,_,h=>by simp[h.1,Ty.sz]
 | .bool,_,vs,b,h=>by have B:vs=[.bool b]:=h;simp[B,Ty.sz]
 | .pair _ _,_,_,_,⟨_,_,e,h1,h2⟩=>by simp[e,Ty.sz,h1.length,h2.length]
 | .slice _,_,_,_,⟨_,e,_⟩=>by simp[e,Ty.sz]
structure Qh0 (w w':Bh):Prop where
 cell:∀a v,w.cell? a=R v->w'.cell? a=R v
theorem Qh0.refl(w):Qh0 w w:=⟨λ_ _ h=>h⟩
theorem Qh0.trans{a b c}(h:Qh0 a b)(k:Qh0 b c):Qh0 a c:=⟨λx v B=>k.cell x v (h.cell x v B)⟩
theorem Below.kept{w w':Bh}(h:Bp w w w'):Qh0 w w':=
 ⟨λa v B=>by rw[h.cell (World.block_lt_of_cell? w a B)];exact B⟩
abbrev Am:=@Below.kept
theorem jC{w w' a v}(B:Bp w.heap.size w w')(h:w.cell? a=some v):w'.cell? a=some v:=(Am B).cell _ _ h
theorem jR{P:Eu}{f:FuncId}{a:Array Bk}{w:Bh}{v:Bk}{Q:Bh->Prop}{K:Ending->Bh->Prop}(h:Bv P f a w λe w'=>e=.returned v/\Q w')(k:∀w',Q w'->K (.returned v) w'):Bv P f a w K:=h.mono λe w' r=>r.1▸k w' r.2
theorem jX{P:Eu}{f:FuncId}{a:Array Bk}{w:Bh}{v:Bk}{K:Ending->Bh->Prop}(h:Bv P f a w λe w'=>e=.returned v/\w=w')(k:K (.returned v) w):Bv P f a w K:=h.mono λe w' r=>by rw [r.1,<-r.2];exact k
inductive JN|jN
open JN(jN)
instance:CoeDep JN jN Bk:=⟨.slice none 0 0⟩
instance:CoeDep Unit () Bk:=⟨.int .i64 0⟩
theorem Qy2.kept{w w' b o cs}(h:Qy2 w b o cs)(k:Qh0 w w'):Qy2 w' b o cs:=λj B=>k.cell _ _ (h j B)
theorem Qy2.kb{w w' b o cs}(h:Qy2 w b o cs)(k:Bp w.heap.size w w'):Qy2 w' b o cs:=h.kept (Am k)
theorem Rd.kept: {t:Ty}-> {w w':Bh}-> {vs:List Bk}-> {x:t.den}->Rd t w vs x->Qh0 w w'->Rd t w' vs x
 | .int,_,_,_,_,h,_=>h
 | .bool,_,_,_,_,h,_=>h
 | .pair _ _,_,_,_,_,⟨v1,v2,e,h1,h2⟩,k=>⟨v1,v2,e,h1.kept k,h2.kept k⟩
 | .slice _,_,_,_,_,⟨v,e,h⟩,k=>⟨v,e,by
   rcases h with h|⟨b,o,cap,hv,hl,hm,hi⟩
   ·exact .inl h
   exact .inr ⟨b,o,cap,hv,hl,hm,λi h=>let ⟨cs,h1,h2,h3⟩:=hi i h;⟨cs,h1,h2.kept k,h3.kept k⟩⟩⟩
theorem Rd.kb{t w w' vs x}(h:Rd t w vs x)(k:Bp w.heap.size w w'):Rd t w' vs x:=h.kept (Am k)
def Qx5{α:Type}(ow:List Bk->α->List Nat->Prop)(sz:Nat)(w:Bh)(v:Bk)(xs:List α)(F:List Nat):Prop:=
 (xs=[]/\F=[]/\∃(a:Option Cp),v=A a 0 0/\(∀x,a=R x->x.spot=N))\/
 ∃(b o cap:Nat) (cur:Array Bk) (T:Cd) (Fs:List (List Nat)),v=A (R (b,o)) xs cap/\xs<=cap/\cap<=Bu/\(w,oC b cur T)/\
  o+cap * sz<=cur.size/\F=b::Fs.flatten/\Fs.length=xs/\
  ∀(i:Nat) (h:i<xs),ow ((cur.toList.drop (o+i * sz)).take sz) xs[i] (Fs.getD i [])
def Ow:(t:Ty)->Bh->List Bk->t.den->List Nat->Prop
 | .int,_,vs,n,F=>vs=[I Z n]/\Qyn n/\F=[]
 | .bool,_,vs,b,F=>vs=[.bool b]/\F=[]
 | .pair a b,w,vs,x,F=>∃v1 v2 F1 F2,vs=v1++v2/\F=F1++F2/\Ow a w v1 x.1 F1/\Ow b w v2 x.2 F2
 | .slice e,w,vs,xs,F=>∃v,vs=[v]/\Qx5 (Ow e w) e.sz w v xs F
theorem Ow.length: {t:Ty}-> {w:Bh}-> {vs:List Bk}-> {x:t.den}-> {F:List Nat}->Ow t w vs x F->vs=t.sz
 | .int,_,_,_,_,h=>by simp[h.1,Ty.sz]
 | .bool,_,_,_,_,h=>by simp[h.1,Ty.sz]
 | .pair _ _,_,_,_,_,⟨_,_,_,_,e,_,h1,h2⟩=>by simp[e,Ty.sz,h1.length,h2.length]
 | .slice _,_,_,_,_,⟨_,e,_⟩=>by simp[e,Ty.sz]
def Qto.gen{α E B w v}{xs:List α}(h:Qto E B w v xs):
  ∃(p:Option Cp) (C:Nat),v=A p xs C/\xs<=C/\xs<=Bu/\
   ∀(i:Nat) (h:i<xs),∃b o,p=R ⟨b,o,N⟩/\∃cs,cs.length=B/\Qy2 w b (o+i * B) cs/\E cs xs[i]:=by
 rcases h with⟨rfl,rfl⟩|⟨b,o,C,rfl,F,G,H⟩
 ·simp_all
 grind
theorem Ys{α}{xs ys:List α}{k:Nat}(B)(C:k<ys)(h:xs.take k=ys.take k)(E:xs[k]=ys[k]):
  xs.take (k+1)=ys.take (k+1):=by
 grind[List.take_succ_eq_append_getElem]
theorem Yi{α}{xs ys:List α}{k:Nat}(B)(C:k<ys)(E:xs[k]≠ys[k]):xs≠ys:=by
 grind
def Jq{α}{xs ys:List α}{k}(h:xs.take k=ys.take k)(B:xs<=k)(C:ys<=k):xs=ys:=by
 grind[List.take_of_length_le]
theorem Qa6{w b o v}(h:Qy2 w b o [v]):w.cell? (b,o)=R v:=h 0 (by simp)
abbrev Q5:Ty:=.pair .int .int
abbrev Z7:Ty:=.pair Q5 Q5
abbrev Q4:Ty:=.pair .int (.pair .int (.pair .int (.pair (.slice .int) (.slice Q5))))
abbrev Qq:Ty:=.pair (.slice Q4) (.pair .int (.pair Q5 (.slice Q5)))
abbrev Qh:Ty:=.pair .int (.pair .int (.pair (.slice Q5) (.pair (.slice Z7) (.slice .int))))
abbrev Qv:Ty:=.pair Qq (.pair (.slice Qh) .int)
abbrev Jl:Ty:=.slice Q4
theorem Q8{B a w}(h:Bp B a w)(n):Bp B a (w.drewN n):=⟨h.os,h.tape,h.output,h.size,h.block⟩
def Vk{W w1:Bh}(B:Bp W W w1):(∀b o,b<W.heap.size->w1.cell? ⟨b,o,N⟩=W.cell? ⟨b,o,N⟩)/\(∀b o,b<W.heap.size->w1.frozen? ⟨b,o,N⟩=W.frozen? ⟨b,o,N⟩):=
 ⟨λb o h=>B.cell (p:=⟨b,o,N⟩) h,λb o h=>B.frozen (p:=⟨b,o,N⟩) h⟩
theorem Q0{W a b:Bh}(h:Bp W W a)(k:Bp a a b):Bp W W b:=
 h.trans (k.mono h.size)
def Q0i{e w vs}{xs:List e.den}(h:Rd (.slice e) w vs xs):∃d,vs=[d]/\Rd (.slice e) w [d] xs:=by
 obtain⟨d,rfl,h⟩:=h;exact⟨d,rfl,d,rfl,h⟩
def Ju{e w v}{xs:List e.den}(h:Rd (.slice e) w [v] xs):Qto (Rd e w) e.sz w v xs:=by
 obtain⟨d,e,h⟩:=h;grind
theorem Qg6{w b o B v1}(h:Qy2 w b o [B,v1]):(w,b,o,B)/\(w,b,o+1,v1):=
 ⟨h 0 (by simp),h 1 (by simp)⟩
def Qqr{w b o B v1 C E}(h:Qy2 w b o [B,v1,C,E]):(w,b,o,B)/\(w,b,o+1,v1)/\(w,b,o+2,C)/\(w,b,o+3,E):=
 ⟨h 0 (by simp),h 1 (by simp),h 2 (by simp),h 3 (by simp)⟩
theorem Q5v{w b o B v1 C E F}(h:Qy2 w b o [B,v1,C,E,F]):(w,b,o,B)/\(w,b,o+1,v1)/\(w,b,o+2,C)/\(w,b,o+3,E)/\(w,b,o+4,F):=
 ⟨h 0 (by simp),h 1 (by simp),h 2 (by simp),h 3 (by simp),h 4 (by simp)⟩
def Qw8{w b o B v1 C E F G H}(h:Qy2 w b o [B,v1,C,E,F,G,H]):(w,b,o,B)/\(w,b,o+1,v1)/\(w,b,o+2,C)/\(w,b,o+3,E)/\(w,b,o+4,F)/\(w,b,o+5,G)/\(w,b,o+6,H):=
 ⟨h 0 (by simp),h 1 (by simp),h 2 (by simp),h 3 (by simp),h 4 (by simp),h 5 (by simp),h 6 (by simp)⟩
def Qyo(t:Ty)(x y:t.den):Bool:= @decide (x=y) (Ty.decEq t x y)
theorem Z5{t x y}:Qyo t x y=Bn↔x=y:=by grind[Qyo]
theorem Zu{t x y}:Qyo t x y=Bm↔¬x=y:=by grind[Qyo]
theorem Js{t x y}(h:x=y):Qyo t x y=Bn:=Z5.2 h
theorem Vu{t x y}(h:¬x=y):Qyo t x y=Bm:=Zu.2 h
def Y1{t x y r}(h:r=Bn↔x=y):Ending.returned r=.returned (Qyo t x y):=by
 grind[Vu,Js]
def Qyv:(t:Ty)->t.den->Nat
 | .int,_=>0
 | .bool,_=>0
 | .pair a b,x=>Qyv a x.1+Qyv b x.2
 | .slice e,xs=>Ca xs+(List.map (Qyv e) xs).sum
def Q87(e:Ty)(xs:List e.den):Nat:=(List.map (Qyv e) xs).sum
theorem Q0o(e)(xs:List e.den):Qyv (.slice e) xs=xs+Q87 e xs:=rfl
def Q6i{e}{xs:List e.den}{k:Nat}(h):Q87 e (xs.take (k+1))=Q87 e (xs.take k)+Qyv e xs[k]:=by
 unfold Q87;rw[An h,Ep,Ic];simp
def Qoy{e}{xs:List e.den}{k:Nat}(h:xs<=k):Q87 e (xs.take k)=Q87 e xs:=by rw[Ao h]
def Q9c{e}(xs k):Q87 e (xs.take k)<=Q87 e xs:=by
 have h:Q87 e (xs.take k)+Q87 e (xs.drop k)=Q87 e xs:=by unfold Q87;rw[<-Ic,<-Ep,Fh]
 omega
def Ty.flat:Ty->Bool
 | .int=>Bn
 | .bool=>Bn
 | .pair a b=>a.flat && b.flat
 | .slice _=>Bm
theorem Qey:(t:Ty)->t.flat=Bn->∀x:t.den,Qyv t x=0
 | .int,_,_=>rfl
 | .bool,_,_=>rfl
 | .pair a b,h,x=>by simp only[Ty.flat,Bi]at h;simp[Qyv,Qey a h.1 x.1,Qey b h.2 x.2]
theorem Qpr{e}(h:e.flat=Bn)(xs):Q87 e xs=0:=by
 unfold Q87;induction xs with
 |nil=>rfl
 |cons x xs ih=>rw[Ga,List.sum_cons,ih,Qey e h x]
theorem Zy{e}(h:e.flat=Bn)(xs:List e.den):Qyv (.slice e) xs=xs:=by rw[Q0o,Qpr h];rfl
def Qyi(left:Int)(n:Nat):Int:=if(n:Int)<=left then left-n else -1
theorem Q2c{left}{n:Nat}(h:(n:Int)<=left):Qyi left n=left-n:=by grind[Qyi]
theorem Q1k{left}{n:Nat}(h:¬(n:Int)<=left):Qyi left n= -1:=by grind[Qyi]
def Qt{k a b}(h:a=b):Ending.returned (.int k a)=.returned (.int k b):=by rw[h]
def Q5z{α:Type}(p:α->Bool)(xs:List α):Int:=match xs.findIdx? p with
 |some i=>(i:Int)
 |none=> -1
def Qf5{α p}{xs:List α}{k:Nat}(B)(h:∀(j:Nat) (C:j<xs),j<k->p xs[j]=Bm)(E:p xs[k]=Bn):Q5z p xs=k:=by
 grind[List.findIdx?_eq_some_iff_getElem,Q5z]
def Q9a{α p}{xs:List α}{k:Nat}(B:xs<=k)(h:∀(j:Nat) (C:j<xs),j<k->p xs[j]=Bm):Q5z p xs= -1:=by
 grind[List.mem_iff_getElem,Q5z]
def Qcm{α}(p:α->Bool)(xs):decide (0<=Q5z p xs)=xs.any p:=by
 unfold Q5z;grind
def Vw(P:Eu)(f:Nat):Prop:=∀(args:Array Bk) (w:Bh),(callFunc f args).run P w=.ok (.enter f args) w
structure Q1 (X:Nat->Prop) (w w':Bh):Prop where
 os:w'.os=w.os
 tape:w'.tape=w.tape
 output:w'.output=w.output
 size:w.heap.size<=w'.heap.size
 block:∀b,b<w.heap.size->¬X b->w'.heap[b]?=w.heap[b]?
theorem Q1.refl(X w):Q1 X w w:=⟨rfl,rfl,rfl,Aj _,λ_ _ _=>rfl⟩
abbrev Ah:=@Q1.refl
theorem Q1.trans{X a b c}(h:Q1 X a b)(k:Q1 X b c):Q1 X a c:=
 ⟨k.os.trans h.os,k.tape.trans h.tape,k.output.trans h.output,Au h.size k.size,
  λi B C=>(k.block i (Ap B h.size) C).trans (h.block i B C)⟩
abbrev Aw:=@Q1.trans
theorem Q1.mono{X Y a b}(h:Q1 X a b)(B:∀i,X i->Y i):Q1 Y a b:=
 ⟨h.os,h.tape,h.output,h.size,λi C E=>h.block i C (λF=>E (B i F))⟩
abbrev Ax:=@Q1.mono
theorem Below.fr{X}{w:Bh}{w'}(h:Bp w w w'):Q1 X w w':=⟨h.os,h.tape,h.output,h.size,λb B _=>h.block b B⟩
abbrev Ay:=@Below.fr
theorem Q1.below{B:Nat}{X w w'}(h:Q1 X w w')(E:B<=w)(hX:∀i,X i->B<=i):Bp B w w':=
 ⟨h.os,h.tape,h.output,h.size,λk F=>h.block k (by omega) (λC=>by have:=hX k C;omega)⟩
theorem Q1.alloc{X a w}(h:Q1 X a w)(o):Q1 X a (w.alloc o):=
 h.trans ⟨rfl,rfl,rfl,by simp,λk B _=>Az _ _ _ B⟩
theorem Q1.setCell{X a w}(h:Q1 X a w){p}(B:X p.block)(u):Q1 X a (w.setCell p u):=
 h.trans ⟨rfl,rfl,rfl,by simp[Gn],λk _ C=>Below.heap_setCell _ _ _ _ (λe=>C (e▸B))⟩
theorem Q1.drew{X a w}(h:Q1 X a w):Q1 X a w.drew:=⟨h.os,h.tape,h.output,h.size,h.block⟩
def Q1.drewN{X a w}(h:Q1 X a w)(n):Q1 X a (w.drewN n):=⟨h.os,h.tape,h.output,h.size,h.block⟩
def Q1.call{X a w w'}(h:Q1 X a w)(k:Bp w w w'):Q1 X a w':=h.trans (Ay k)
theorem Qf8{B:List (List Nat)}{i:Nat}(h:i<B):B.getD i []∈B:=by
 grind
theorem Zv{B:List (List Nat)}{i b:Nat}(h:i<B)(C:b∈B.getD i []):b∈B.flatten:=Hg.2 ⟨_,Qf8 h,C⟩
theorem Ow.kept: {t:Ty}-> {w w':Bh}-> {vs:List Bk}-> {x:t.den}-> {F:List Nat}->Ow t w vs x F->(∀b∈F,w'.heap[b]?=w.heap[b]?)->Ow t w' vs x F
 | .int,_,_,_,_,_,h,_=>h
 | .bool,_,_,_,_,_,h,_=>h
 | .pair _ _,_,_,_,_,_,⟨v1,v2,F1,F2,e,ef,h1,h2⟩,k=>⟨v1,v2,F1,F2,e,ef,h1.kept (λb B=>k b (by simp[ef,B])),h2.kept (λb B=>k b (by simp[ef,B]))⟩
 | .slice _,w,w',_,_,F,⟨v,e,h⟩,k=>⟨v,e,by
   rcases h with h|⟨b,o,cap,cur,T,Fs,hv,hl,hm,B,hsz,hF,hFl,hi⟩
   ·exact .inl h
   refine .inr ⟨b,o,cap,cur,T,Fs,hv,hl,hm,by rw[k b (by simp[hF])];exact B,hsz,hF,hFl,λi h=> ?_⟩;refine(hi i h).kept (λc C=>k c ?_);rw[hF];exact Aa _ (Zv (by omega) C)⟩
theorem Ow.frame{t w w' vs x F X}(h:Ow t w vs x F)(k:Q1 X w w')(B:∀b∈F,b<w.heap.size/\¬X b):Ow t w' vs x F:=
 h.kept λb C=>k.block b (B b C).1 (B b C).2
theorem Ow.rd: {t:Ty}-> {w:Bh}-> {vs:List Bk}-> {x:t.den}-> {F:List Nat}->Ow t w vs x F->Rd t w vs x
 | .int,_,_,_,_,h=>⟨h.1,h.2.1⟩
 | .bool,_,_,_,_,h=>h.1
 | .pair _ _,_,_,_,_,⟨v1,v2,_,_,e,_,G,h2⟩=>⟨v1,v2,e,G.rd,h2.rd⟩
 | .slice e,w,_,xs,F,⟨v,ev,h⟩=>⟨v,ev,by
   rcases h with⟨B,K,a,C,L⟩|⟨b,o,H,cur,T,W,C,M,O,P,X,K,Y,E⟩
   ·cases a with
    |none=>left;exact⟨C,B⟩
    |some a=>
     right;refine⟨a.block,a.off,0, ?_, ?_,Ak _, ?_⟩
     ·have J:=L a rfl
      obtain⟨c,d,f⟩:=a;simp only at J;subst J;rw[C,B];rfl
     ·rw[B];exact Ak _
     intro i h;rw[B]at h;exact absurd h (Dh _)
   right;refine⟨b,o,H,C,M,O,λi h=>⟨_,(E i h).length, ?_,(E i h).rd⟩⟩;intro j S;have U:=S;rw[(E i h).length]at U;have V:o+i * e.sz+j<cur.size:=by
    have G:i * e.sz+e.sz<=H * e.sz:=by rw[<-Dv];exact Bd _ (by omega)
    omega
   simp only[Er,P];simp[V]⟩
theorem Ow.slice_form{e w v}{xs:List e.den}{F}(h:Ow (.slice e) w [v] xs F):∃p B,v=A p xs B:=by
 obtain⟨E,G,h⟩:=h;obtain rfl:v=E:=by simpa using G
 rcases h with⟨H,_,a,C,_⟩|⟨b,o,B,_,_,_,C,_⟩
 ·grind
 exact⟨_,B,C⟩
theorem V5{e w vs}{xs:List e.den}{F}(h:Ow (.slice e) w vs xs F):∃p B,vs=[A p xs B]/\Ow (.slice e) w [A p xs B] xs F:=by
 grind[Ow,Ow.slice_form]
def Yu(w:Bh)(g:Nat):Nat->List Bk->Bh
 |_,[]=>w
 |o,v::r=>Yu (w.setCell (g,o) v) g (o+1) r
def Q1u(cur:Array Bk):Nat->List Bk->Array Bk
 |_,[]=>cur
 |o,v::r=>Q1u (cur.setIfInBounds o v) (o+1) r
theorem Z1{w:Bh}{g:Nat}{o v cur T fr}(h:w.heap[g]?=R (.cells cur T fr)):
  (w.setCell (g,o) v).heap[g]?=R (.cells (cur.setIfInBounds o v) T fr):=by
 simp[Gn,Array.getElem?_modify,h]
theorem Jn{g:Nat}{T:Cd}{fr:Nat×Nat}:∀(vs:List Bk) (o:Nat) (w:Bh) (cur:Array Bk),w.heap[g]?=R (.cells cur T fr)->
  (Yu w g o vs).heap[g]?=R (.cells (Q1u cur o vs) T fr)
 | [],_,_,_,h=>h
 |v::r,o,w,cur,h=>Jn r (o+1) _ _ (Z1 h)
theorem Qcs{g:Nat}:∀(vs:List Bk) (o:Nat) (w:Bh),(Yu w g o vs).heap.size=w
 | [],_,_=>rfl
 |v::r,o,w=>by rw[Yu,Qcs r];simp[Gn]
theorem Zx{g:Nat}{X:Nat->Prop}(hX:X g):∀(vs:List Bk) (o:Nat) (w:Bh),Q1 X w (Yu w g o vs)
 | [],_,w=>Q1.refl X w
 |v::r,o,w=>((Q1.refl X w).setCell (p:=⟨g,o,N⟩) hX v).trans (Zx hX r (o+1) _)
theorem Q2k:∀(vs:List Bk) (o:Nat) (cur:Array Bk),(Q1u cur o vs).size=cur.size
 | [],_,_=>rfl
 |v::r,o,cur=>by rw[Q1u,Q2k r];simp
theorem Q6q:∀(vs:List Bk) (o:Nat) (cur:Array Bk) (j:Nat),o+vs.length<=cur.size->
  (Q1u cur o vs)[j]?=if o<=j/\j<o+vs.length then vs[j-o]? else cur[j]?
 | [],o,cur,j,_=>by rw[Q1u,if_neg (by simp)]
 |v::r,o,cur,j,h=>by
  simp only[Br]at h;rw[Q1u,Q6q r (o+1) _ j (by simp;omega)];by_cases B:j=o
  ·subst B
   rw[if_neg (by omega),if_pos (by simp),Array.getElem?_setIfInBounds,if_pos rfl,if_pos (by omega)];simp
  have E:(cur.setIfInBounds o v)[j]?=cur[j]?:=by rw[Array.getElem?_setIfInBounds,if_neg (λe=>B e.symm)]
  rw[E];by_cases C:o+1<=j/\j<o+1+r.length
  ·rw[if_pos C,if_pos (by simp only[Br];omega)]
   rw[show j-o=(j-(o+1))+1 by omega,List.getElem?_cons_succ]
  rw[if_neg C,if_neg (by simp only[Br];omega)]
def Q17(cur:Array Bk)(o n:Nat):List Bk:=(cur.toList.drop o).take n
theorem Q0j{cur o n}(h:o+n<=cur.size):(Q17 cur o n)=n:=by unfold Q17;simp;omega
theorem Q5m{cur o vs}(h:o+vs.length<=cur.size):Q17 (Q1u cur o vs) o vs.length=vs:=by
 apply Eb;grind[Q17,Q6q]
theorem Q4r{cur o p n vs}(h:o+vs.length<=cur.size)(B:p+n<=o\/o+vs.length<=p):Q17 (Q1u cur o vs) p n=Q17 cur p n:=by
 apply Eb;grind[Q17,Q6q]
theorem Q4b{w g cur T fr}(h:w.heap[g]?=R (.cells cur T fr))(o n)(C:o+n<=cur.size):Qy2 w g o (Q17 cur o n):=by
 intro j B;have E:=B;rw[Q0j C]at E;simp only[Er,h];unfold Q17 at B⊢;grind
def Jv(e:Ty)(T:Cd)(B g n:Nat)(xs:List e.den)(k:Nat)(w:Bh):Prop:=
 ∃(cur:Array Bk) (Fs:List (List Nat)),(w,oC g cur T)/\cur.size=n * e.sz/\k<=n/\Fs=k/\B<=g/\
  (∀(i:Nat) (h:i<xs),i<k->Ow e w (Q17 cur (i * e.sz) e.sz) xs[i] (Fs.getD i []))/\(g::Fs.flatten).Nodup/\∀b∈Fs.flatten,B<=b/\b<w.heap.size
theorem Jv.start{e T B g n xs w cur}(h:w.heap[g]?=R (.cells cur T (0,0)))(C:cur.size=n * e.sz)(E:B<=g):Jv e T B g n xs 0 w:=
 ⟨cur,[],h,C,Ak _,rfl,E,λi _ h=>absurd h (Dh _),by simp,by simp⟩
theorem Jv.kept{e T B g n xs k w w'}(h:Jv e T B g n xs k w)(E:Bp w w w'):Jv e T B g n xs k w':=by
 obtain⟨cur,H,G,J,K,L,M,O,P,F⟩:=h;have S:g<w:=(Al.1 G).1;refine⟨cur,H,by rw[E.block g S];exact G,J,K,L,M,λi U V=>(O i U V).kept λb C=>E.block b (F b (Zv (by omega) C)).2,P,λb C=>⟨(F b C).1,Ap (F b C).2 E.size⟩⟩
def Jv.next{e T B g n xs k w}(h:Jv e T B g n xs k w)(G:k<n):
  ∃us,us.length=e.sz/\Qy2 w g (k * e.sz) us:=by
 obtain⟨cur,H,E,F,_⟩:=h;have C:k * e.sz+e.sz<=cur.size:=by rw[F,<-Dv];exact Bd _ (by omega)
 exact⟨Q17 cur (k * e.sz) e.sz,Q0j C,Q4b E _ _ C⟩
theorem Jv.free{e T B g n xs k w}(h:Jv e T B g n xs k w)(o:Nat):w.frozen? (g,o)=Bm:=by
 obtain⟨cur,E,C,_⟩:=h;simp[World.frozen?,C]
theorem Jv.lt{e T B g n xs k w}(h:Jv e T B g n xs k w):g<w:=by
 obtain⟨cur,C,E,_⟩:=h;grind
theorem Jv.step{e T B g n xs k w w1 vs F}(h:Jv e T B g n xs k w)(s)(Y:k<n)(H:Bp w w w1)(J:Ow e w1 vs xs[k] F)(t:F.Nodup)(K:∀b∈F,w<=b/\b<w1.heap.size):Jv e T B g n xs (k+1) (Yu w1 g (k * e.sz) vs):=by
 obtain⟨cur,C,L,M,u,a,c,d,f,O⟩:=h;have j:g<w:=(Al.1 L).1;have P:=J.length;have S:k * e.sz+vs.length<=cur.size:=by rw[M,P,<-Dv];exact Bd _ (by omega)
 have l:w1.heap[g]?=R (.cells cur T (0,0)):=by rw[H.block g j];exact L
 have U:Q1 (λi=>i=g) w1 (Yu w1 g (k * e.sz) vs):=Zx (X:=λi=>i=g) rfl vs _ _;have v:=Qcs (g:=g) vs (k * e.sz) w1;have x:=H.size;have m:∀i,i<k->(C++ [F]).getD i []=C.getD i []:=λi V=>by grind
 have o:(C++ [F]).getD k []=F:=by grind
 have p:g∉F:=λE=>by have:=(K g E).1;omega
 have q:g∉C.flatten:=(Ar.1 f).1;refine⟨Q1u cur (k * e.sz) vs,C++ [F],Jn vs _ _ _ l,by rw[Q2k];exact M,Y,by simp[a],c,λi V y=> ?_, ?_, ?_⟩
 ·by_cases r:i=k
  ·subst r
   have W:=Q5m S;rw[P]at W;rw[o,W];exact J.frame U λb G=>⟨(K b G).2,λe=>p (e▸G)⟩
  rw[m i (by omega),Q4r S (by left;rw[<-Dv];exact Bd _ (by omega))];refine(d i V (by omega)).kept λb G=> ?_;have E:=Zv (by omega) G;rw[U.block b (by have:=(O b E).2;omega) (λe=>q (e▸E)),H.block b (O b E).2]
 ·grind
 grind
theorem Jv.step_at{e T B g n xs k w w1 F}(C vs)(E:C=k * e.sz)(h:Jv e T B g n xs k w)(G)(H:k<n)(J:Bp w w w1)(K:Ow e w1 vs xs[k] F)(L:F.Nodup)(M:∀b∈F,w<=b/\b<w1.heap.size):Jv e T B g n xs (k+1) (Yu w1 g C vs):=by
 subst E;exact h.step G H J K L M
def Qy7(t:Ty)(B:Nat)(w:Bh)(vs:List Bk)(x:t.den):Prop:=∃F,Ow t w vs x F/\F.Nodup/\∀b∈F,B<=b/\b<w.heap.size
theorem Jv.done{e T B g n xs k w}(h:Jv e T B g n xs k w)(O:xs<=k)(G:n=xs)(H:n<=Bu):
  Qy7 (.slice e) B w [A (R (g,0)) n n] xs:=by
 obtain⟨cur,C,E,J,P,K,S,L,M,U⟩:=h;have V:g<w:=(Al.1 E).1;subst G;obtain rfl:k=xs:=by omega
 refine⟨g::C.flatten,⟨_,rfl,.inr ⟨g,0,xs.length,cur,T,C,rfl,Aj _,H,E,by rw[Cg,J];exact Aj _,rfl,K,λi F=> ?_⟩⟩,M, ?_⟩
 ·have:=L i F F
  rw[Cg];exact this
 grind
def Q2q(t:Ty)(w:Bh)(vs:List Bk)(x:t.den)(lo hi:Nat):Prop:=lo<=hi/\∃F,Ow t w vs x F/\F.Nodup/\∀b∈F,lo<=b/\b<hi
theorem Q2q.int{w n}(h:Qyn n)(B):Q2q .int w [n] n B B:=⟨Aj _,[],⟨rfl,h,rfl⟩,by simp,by simp⟩
def Q2q.pair{a b w v1 B x y C E F}(J:Q2q a w v1 x C E)(K:Q2q b w B y E F):Q2q (.pair a b) w (v1++B) (x,y) C F:=by
 obtain⟨L,G,M,S,T⟩:=J;obtain⟨O,H,P,U,V⟩:=K;refine⟨Au L O,G++H,⟨v1,B,G,H,rfl,rfl,M,P⟩, ?_,λb W=> ?_⟩
 ·grind
 grind
theorem Q2q.fr{t w w' vs x c X}(h:Qy7 t c w vs x)(k:Q1 X w w')(hX:∀i,X i->i<c)(C)(G:C<=c)(H:c<=w):Q2q t w' vs x C w:=by
 obtain⟨F,o,n,r⟩:=h;exact⟨by omega,F,o.frame k λb B=>⟨(r b B).2,λE=>by have:=hX b E;have:=(r b B).1;omega⟩,n,λb B=>⟨by have:=(r b B).1;omega,(r b B).2⟩⟩
theorem Q2q.new{t w vs x B C}(h:Q2q t w vs x B C)(G:C<=w):Qy7 t B w vs x:=by
 obtain⟨_,F,o,n,r⟩:=h;exact⟨F,o,n,λb E=>⟨(r b E).1,by have:=(r b E).2;omega⟩⟩
theorem Qy7.lo{t B C w vs x}(h:Qy7 t B w vs x)(G:C<=B):Qy7 t C w vs x:=
 let ⟨F,o,n,r⟩:=h;⟨F,o,n,λb E=>⟨Au G (r b E).1,(r b E).2⟩⟩
theorem Qy7.kept{t B w w' vs x}(h:Qy7 t B w vs x)(E:Bp w w w'):Qy7 t B w' vs x:=
 let ⟨F,o,n,r⟩:=h;⟨F,o.kept λb C=>E.block b (r b C).2,n,λb C=>⟨(r b C).1,Ap (r b C).2 E.size⟩⟩
theorem Vi(a b x):Qyv (.pair a b) x=Qyv a x.1+Qyv b x.2:=rfl
theorem Vn(x):Qyv .int x=0:=rfl
def Qnq(t:Ty)(w:Bh)(x:t.den)(e:Ending)(w':Bh):Prop:=∃v,e=.returned v/\Qy7 t w w' [v] x/\(w,w')
def Q2w(t:Ty)(w:Bh)(x:t.den)(e:Ending)(w':Bh):Prop:=∃vs,e=.returned (.agg vs.toArray)/\Qy7 t w w' vs x/\(w,w')
def V6{e B w v}{xs:List e.den}(h:Qy7 (.slice e) B w [v] xs):∃p C,v=A p xs C:=let ⟨_,o,_⟩:=h;o.slice_form
def Qgp{us:List Bk}(h:us.length=1):∃B,us=[B]:=by
 match us,h with
 | [B],_=>exact⟨B,rfl⟩
def Qps{us:List Bk}(h:us.length=2):∃B C,us=[B,C]:=by
 match us,h with
 | [B,C],_=>exact⟨B,C,rfl⟩
def Qwe{us:List Bk}(h:us.length=3):∃B C E,us=[B,C,E]:=by
 match us,h with
 | [B,C,E],_=>exact⟨B,C,E,rfl⟩
def Qnj{us:List Bk}(h:us.length=4):∃B C E F,us=[B,C,E,F]:=by
 match us,h with
 | [B,C,E,F],_=>exact⟨B,C,E,F,rfl⟩
def Qnn{us:List Bk}(h:us.length=5):∃B C E F G,us=[B,C,E,F,G]:=by
 match us,h with
 | [B,C,E,F,G],_=>exact⟨B,C,E,F,G,rfl⟩
def Qda{us:List Bk}(h:us.length=7):∃B C E F G H J,us=[B,C,E,F,G,H,J]:=by
 match us,h with
 | [B,C,E,F,G,H,J],_=>exact⟨B,C,E,F,G,H,J,rfl⟩
def Vh:(t:Ty)->t.den->Nat
 | .int,_=>1
 | .bool,_=>0
 | .pair a b,x=>Vh a x.1+Vh b x.2
 | .slice e,xs=>(List.map (Vh e) xs).sum
def mk:(t:Ty)->t.den->Int->t.den
 | .int,_,k=>k
 | .bool,b,_=>b
 | .pair a b,x,k=>(mk a x.1 k,mk b x.2 (k+Vh a x.1))
 | .slice e,xs,k=>(List.foldl (λ(acc:List e.den×Int) x=>(acc.1++ [mk e x acc.2],acc.2+Vh e x)) ([],k) xs).1
def Y3(e:Ty)(xs:List e.den):Nat:=(List.map (Vh e) xs).sum
def Qhf{e}{xs:List e.den}{k:Nat}(h):Y3 e (xs.take (k+1))=Y3 e (xs.take k)+Vh e xs[k]:=by
 unfold Y3;rw[An h,Ep,Ic];simp
def Qhy{e}{xs:List e.den}{k:Nat}(h:xs<=k):Y3 e (xs.take k)=Y3 e xs:=by rw[Ao h]
def Qqo{e}(xs k):Y3 e (xs.take k)<=Y3 e xs:=by
 have h:Y3 e (xs.take k)+Y3 e (xs.drop k)=Y3 e xs:=by unfold Y3;rw[<-Ic,<-Ep,Fh]
 omega
def Qvl{e}(xs B k):
  (List.foldl (λ(B:List e.den×Int) x=>(B.1++ [mk e x B.2],B.2+Vh e x)) (B,k) xs).2=k+(Y3 e xs:Nat)/\
  (List.foldl (λ(B:List e.den×Int) x=>(B.1++ [mk e x B.2],B.2+Vh e x)) (B,k) xs).1=B++mk (.slice e) xs k:=by
 induction xs generalizing B k with
 |nil=>simp[Y3,mk]
 |cons x r ih=>grind[mk,Y3]
theorem Qrc{e}(x r k):mk (.slice e) (x::r) k=mk e x k::mk (.slice e) r (k+Vh e x):=by
 show(List.foldl _ ([],k) (x::r)).1=_;rw[Cb];simp only[List.nil_append];rw[(Qvl r [mk e x k] (k+Vh e x)).2];rfl
theorem Q3x{e}(xs:List e.den)(k):Ca (mk (.slice e) xs k)=xs:=by
 induction xs generalizing k with
 |nil=>rfl
 |cons x r ih=>rw[Qrc,Br,Br,ih]
theorem Qtw{e}(xs:List e.den)(k)(i:Nat)(h B):(mk (.slice e) xs k)[i]'B=mk e xs[i] (k+(Y3 e (xs.take i):Nat)):=by
 induction xs generalizing k i with
 |nil=>simp at h
 |cons x r ih=>
  have C:=Qrc x r k;cases i with
  |zero=>grind[Y3]
  |succ i=>grind[Y3]
def Qlp(e:Ty)(xs:List e.den)(k:Int)(i:Nat):List e.den:=(mk (.slice e) xs k).take i++xs.drop i
theorem Qis{e}{xs:List e.den}{k}{i:Nat}(h:i<=xs):(Qlp e xs k i).length=xs:=by
 grind[Q3x,Qlp]
theorem Qt7{e xs k i}(h B):(Qlp e xs k i)[i]'B=xs[i]:=by
 have C:=Q3x xs k;have E:(List.take i (mk (.slice e) xs k))=i:=by rw[Cf];omega
 have F:(Qlp e xs k i)[i]?=R xs[i]:=by unfold Qlp;grind
 grind
def Qpw{e xs k i}(h):Qlp e xs k (i+1)=(Qlp e xs k i).set i (mk e xs[i] (k+(Y3 e (xs.take i):Nat))):=by
 have E:=Q3x xs k;have B:i<Ca (mk (.slice e) xs k):=by omega
 have C:(List.take i (mk (.slice e) xs k))=i:=by rw[Cf];omega
 unfold Qlp;rw[An B,Qtw xs k i h B,List.set_append_right _ _ (by omega),C,Nat.sub_self,List.drop_eq_getElem_cons h,List.set_cons_zero,Co];rfl
theorem Qq5{e}(xs k):Qlp e xs k 0=xs:=by simp[Qlp]
def Qqz{e}(xs:List e.den)(k)(i:Nat)(h:xs<=i):Qlp e xs k i=mk (.slice e) xs k:=by
 grind[Q3x,Qlp,List.take_of_length_le,List.drop_eq_nil_of_le]
def Ow.gen{e w v}{xs:List e.den}{F}(h:Ow (.slice e) w [v] xs F):∃(p:Option Cp) (B:Nat),v=A p xs B/\xs<=Bu:=by
 obtain⟨C,E,h⟩:=h;obtain rfl:v=C:=by simpa using E
 rcases h with⟨H,_,a,G,_⟩|⟨b,o,B,_,_,_,G,J,K,_⟩
 ·grind
 grind
theorem Ow.lt: {t:Ty}-> {w:Bh}-> {vs:List Bk}-> {x:t.den}-> {F:List Nat}->Ow t w vs x F->∀c∈F,c<w.heap.size
 | .int,_,_,_,_,h,c,hc=>by rw[h.2.2]at hc;simp at hc
 | .bool,_,_,_,_,h,c,hc=>by rw[h.2]at hc;simp at hc
 | .pair _ _,_,_,_,_,⟨_,_,F1,F2,_,e,h1,h2⟩,c,hc=>by rw[e,At0]at hc;exact hc.elim (h1.lt c) (h2.lt c)
 | .slice e,w,_,xs,F,⟨v,_,h⟩,c,hc=>by
  rcases h with⟨_,B,_⟩|⟨b,o,L,cur,T,M,_,_,_,C,_,B,O,E⟩
  ·rw[B]at hc;simp at hc
  rw[B]at hc;rcases Aq.1 hc with rfl|hc
  ·exact(Al.1 C).1
  obtain⟨G,H,J⟩:=Hg.1 hc;obtain⟨j,K,rfl⟩:=Av.1 H;refine(E j (by omega)).lt c ?_;rw[Ab,Ad K];exact J
def Qxw{C B:List Nat}(h:(C++B).Nodup):C.Nodup/\B.Nodup/\∀a,a∈C->a∈B->False:=by
 grind
theorem Qyr{b C}{B:List Nat}(h:b∉C++B):b∉C/\b∉B:=by
 grind
def Qys{E B C:List Nat}(h:(E++(B++C)).Nodup):E.Nodup/\B.Nodup/\C.Nodup/\(∀a,a∈E->a∈B->False)/\(∀a,a∈E->a∈C->False)/\(∀a,a∈B->a∈C->False):=by
 grind
theorem Qyf{b E B}{C:List Nat}(h:b∉E++(B++C)):b∉E/\b∉B/\b∉C:=by grind
def Qm9{w n m}(h:Qyn n)(e:m=n):Ow .int w [n] m []:=by subst e;exact⟨rfl,h,rfl⟩
def Ow.at{t w vs y B F}(h:Ow t w vs y F)(e:B=y):Ow t w vs B F:=by subst e;exact h
def Qc(b off n:Nat)(w w':Bh):Prop:=
 ∀cur T,w.heap[b]?=R (.cells cur T (0,0))->∃cur',(w',oC b cur' T)/\cur'.size=cur.size/\∀j,(j<off\/off+n<=j)->cur'[j]?=cur[j]?
theorem Qc.refl(b B n w):Qc b B n w w:=λcur _ h=>⟨cur,h,rfl,λ_ _=>rfl⟩
theorem Qc.set{b B n a w}(h:Qc b B n a w)(q)(G:B<=q/\q<B+n)(v):Qc b B n a (w.setCell (b,q) v):=by
 intro cur T C;obtain⟨H,E,F,J⟩:=h cur T C;refine⟨_,Z1 E,by simpa using F,λj K=> ?_⟩;grind
theorem Qc.fr{b B n a w w' X}(h:Qc b B n a w)(k:Q1 X w w')(hX:¬X b):Qc b B n a w':=by
 intro cur T E;obtain⟨F,C,G,H⟩:=h cur T E;exact⟨F,by rw[k.block b (Al.1 C).1 hX];exact C,G,H⟩
theorem Q1.cell{X w w'}(k:Q1 X w w'){b:Nat}(B:b<w)(hX:¬X b)(q:Nat):w'.cell? (b,q)=w.cell? (b,q):=
 World.cell?_of_block (w:=w) (k.block b B hX)
def Q1.frozen{X w w'}(k:Q1 X w w'){b:Nat}(B:b<w)(hX:¬X b)(q:Nat):w'.frozen? (b,q)=w.frozen? (b,q):=
 World.frozen?_of_block (w:=w) (k.block b B hX)
def Ow.focus{e w p n H}{ys:List e.den}{F}(h:Ow (.slice e) w [A p n H] ys F)(l:F.Nodup)(i:Nat)(J):
  ∃b o us G,p=R ⟨b,o,N⟩/\b∈F/\b<w.heap.size/\(∀c∈G,c∈F)/\G.Nodup/\b∉G/\us.length=e.sz/\Qy2 w b (o+i * e.sz) us/\(∀q,w.frozen? ⟨b,q,N⟩=Bm)/\Ow e w us ys[i] G/\
   ∀(w2:Bh) (us':List Bk) (y:e.den),Q1 (λc=>c=b\/c∈G) w w2->Qc b (o+i * e.sz) e.sz w w2->Qy2 w2 b (o+i * e.sz) us'->Ow e w2 us' y G->Ow (.slice e) w2 [A p n H] (ys.set i y) F:=by
 obtain⟨m,r,h⟩:=h;obtain rfl:A p n H=m:=by simpa using r
 rcases h with⟨s,_⟩|⟨b,o,AB,cur,T,C,X,t,S,L,u,v,x,U⟩
 ·rw[s]at J;simp at J
 simp only[Value.slice.injEq]at X;obtain⟨rfl,rfl,rfl⟩:=X;have Y:o+i * e.sz+e.sz<=cur.size:=by
  have K:i * e.sz+e.sz<=H * e.sz:=by rw[<-Dv];exact Bd _ (by omega)
  omega
 have z:b<w.heap.size:=(Al.1 L).1;subst v;have V:=Ar.1 l;have W:∀j,j<ys.length->∀c∈C.getD j [],c∈C.flatten:=λj B c E=>Zv (by omega) E;have a:=Dw.1 V.2;have hG:(C.getD i []).Nodup:=a.1 _ (Qf8 (by omega));refine⟨b,o,Q17 cur (o+i * e.sz) e.sz,C.getD i [],rfl,Ae,z,λc E=>Aa _ (W i J c E),hG,λS=>V.1 (W i J b S),Q0j Y,Q4b L _ _ Y,λq=>by simp[World.frozen?,L],U i J, ?_⟩;intro w2 us' y A0 A1 A2 d;have AC:=d.length;obtain⟨M,f,A3,A4⟩:=A1 cur T L;have A5:Q17 M (o+i * e.sz) e.sz=us':=by
  apply Eb;intro j;unfold Q17;rw[Cm];by_cases B:j<e.sz
  ·rw[if_pos B,Cu,Array.getElem?_toList]
   have:=A2 j (by omega);simp only[Er,f]at this;simp only[Option.isSome_none,Dc,if_false]at this;rw[this,Ad (by omega)]
  rw[if_neg B,Fi (by omega)]
 have A6:∀q,q+e.sz<=o+i * e.sz\/o+i * e.sz+e.sz<=q->Q17 M q e.sz=Q17 cur q e.sz:=by
  intro q hq;apply Eb;intro j;unfold Q17;rw[Cm,Cm];by_cases B:j<e.sz
  ·rw[if_pos B,if_pos B,Cu,Cu,Array.getElem?_toList,Array.getElem?_toList]
   exact A4 _ (by omega)
  rw[if_neg B,if_neg B]
 refine⟨_,rfl,.inr ⟨b,o,H,M,T,C,by rw[Bl],by rw[Bl];exact t,S,f,by rw[A3];exact u,rfl,by rw[Bl];exact x,λj B=> ?_⟩⟩;rw[Bl]at B;show Ow e w2 (Q17 M (o+j * e.sz) e.sz) _ _;by_cases O:i=j
 ·subst O
  rw[A5];simpa using d
 rw[A6 _ (by
  rcases Et O with h|h
  ·right
   have:i * e.sz+e.sz<=j * e.sz:=by rw[<-Dv];exact Bd _ h
   omega
  left;have:j * e.sz+e.sz<=i * e.sz:=by rw[<-Dv];exact Bd _ h
  omega),Dk O]
 refine(U j B).kept λc E=> ?_;have A7:=W j B c E;have A8:c≠b:=λe=>V.1 (e▸A7);have A9:c∉C.getD i []:=by
  intro g;have K:i<C:=by omega
  have P:j<C.length:=by omega
  have k:=Du.1 a.2;rcases Et O with h|h
  ·have:=k i j K P h c (by rwa [Ab,Ad K]at g) c (by rwa [Ab,Ad P]at E)
   exact this rfl
  have:=k j i P K h c (by rwa [Ab,Ad P]at E) c (by rwa [Ab,Ad K]at g);exact this rfl
 have AA:c<w.heap.size:=(U j B).lt c E;exact A0.block c AA (by rintro(h|h);exact A8 h;exact A9 h)
def Qio{w b o B}(C:w.cell? (b,o)=R B):Qy2 w b o [B]:=by
 intro j E;grind
def Q76{w b o B v1}(C:w.cell? (b,o)=R B)(E:w.cell? (b,o+1)=R v1):Qy2 w b o [B,v1]:=by
 intro j F;grind
def Qaf{w b o B v1 C E}(F:w.cell? (b,o)=R B)(G:w.cell? (b,o+1)=R v1)(H:w.cell? (b,o+2)=R C)(J:w.cell? (b,o+3)=R E):Qy2 w b o [B,v1,C,E]:=by
 intro j K;grind
theorem Q1n{w b o B v1 C E F}(G:w.cell? (b,o)=R B)(H:w.cell? (b,o+1)=R v1)(J:w.cell? (b,o+2)=R C)(K:w.cell? (b,o+3)=R E)(L:w.cell? (b,o+4)=R F):Qy2 w b o [B,v1,C,E,F]:=by
 intro j M;grind
def Qvw{w b o B v1 C E F G H}(J:w.cell? (b,o)=R B)(K:w.cell? (b,o+1)=R v1)(L:w.cell? (b,o+2)=R C)(M:w.cell? (b,o+3)=R E)(O:w.cell? (b,o+4)=R F)(P:w.cell? (b,o+5)=R G)(S:w.cell? (b,o+6)=R H):Qy2 w b o [B,v1,C,E,F,G,H]:=by
 intro j T;grind
def Qxi(n lo hi:Int):Bool:=decide (lo<=n) && decide (n<=hi)
theorem Qj{n B C}:Qxi n B C=Bn↔B<=n/\n<=C:=by simp[Qxi]
def Q13{n B C}:Qxi n B C=Bm↔¬(B<=n/\n<=C):=by
 rw[<-Qj];cases Qxi n B C<;>simp
def Q28(k:Int):Bool:=Qxi k 1 12
def Zf(k:Int):Bool:=k==2||k==3||k==4||k==7||k==8||k==9||k==10||k==11||k==12
def Q4y(k:Int):Bool:=k==3||k==7||k==8||k==10||k==11
def Zm(k l:Int):Bool:=if Zf k then Qxi l 0 8 else Q28 k && l==0
def Q3i(label k l:Int):Bool:=Qxi label 0 8 && Zm k l && (k==6||k==12||(Zf k && decide (label<l)))
def V4(k f:Int):Int:=
 if k==9 then(if Qxi f 0 3 then 1+f else 0)
 else if f !=0 then 0
 else if k==1||k==5||k==6||k==12 then 1
 else if k==8||k==10||k==11 then 2
 else if k==2||k==3||k==4||k==7 then 3
 else 0
def Vl(ka la kb lb:Int):Int:=
 if ka==5 then 4
 else if ka==4 then(if kb==4 && la==lb then 2 else if Q3i la kb lb then 3 else 0)
 else if ka==2 then(if kb==3 && la==lb then 1 else 0)
 else if ka==6 then(if kb==7||kb==8 then 5 else if kb==11 then 6 else 0)
 else if ka==9 then(if kb==10 then 6 else 0)
 else if ka==12 then(if Q4y kb then 7 else 0)
 else 0
def Q66(ka la kb lb:Int):Bool:=Zm ka la && Zm kb lb && ka !=1 && kb !=1
def Jb(ka la kb lb:Int):Int:=
 if Q66 ka la kb lb then
  if Vl ka la kb lb !=0 then Vl ka la kb lb else if Vl kb lb ka la !=0 then Vl kb lb ka la else 8
 else 0
def Vg(ka la kb lb:Int):Int:=
 if Q66 ka la kb lb then(if Vl ka la kb lb !=0 then 1 else if Vl kb lb ka la !=0 then 2 else 0)else 0
def Q22(b:Bool):Int:=if b then 1 else 0
def Q3p(n:Int):Bool:=Qxi n 0 23
def Q9d{k}(h:Q28 k=Bn):k=1\/k=2\/k=3\/k=4\/k=5\/k=6\/k=7\/k=8\/k=9\/k=10\/k=11\/k=12:=by
 have:=Qj.1 h;omega
theorem Qco(k):(Q28 k && k !=1 && k !=5 && k !=6)=Zf k:=by
 by_cases h:Q28 k=Bn
 ·rcases Q9d h with rfl|rfl|rfl|rfl|rfl|rfl|rfl|rfl|rfl|rfl|rfl|rfl<;>rfl
 have E:¬(1<=k/\k<=12):=λB=>h (Qj.2 B);have C:Q28 k=Bm:=by simpa using h
 rw[C];simp only[Bool.false_and,Zf];symm;simp only[Bool.or_eq_false_iff,beq_eq_false_iff_ne];omega
theorem Q8h{k}(h:Zf k=Bn):Q28 k=Bn:=by
 rw[<-Qco]at h;simp only[Bi]at h;exact h.1.1.1
theorem Qn7(k l):(Q28 k && (l==0||(Zf k && Qxi l 0 8)))=Zm k l:=by
 unfold Zm;by_cases h:Zf k=Bn
 ·rw[if_pos h,h,Q8h h]
  by_cases B:l=0
  ·subst B;rfl
  simp[B]
 rw[if_neg h];have C:Zf k=Bm:=by simpa using h
 simp[C]
theorem Qf6(a k l):(if !(Qxi a 0 8)|| !(Zm k l)then Bm else(k==6||(k==12||(Zf k && decide (a<l)))))=Q3i a k l:=by
 unfold Q3i;cases Qxi a 0 8<;>cases Zm k l<;>cases Zf k<;>simp[Bool.or_assoc]
def Qxy(n:Int):Int:=IntKind.i32.wrap n
theorem Q5r(n): -2147483648<=Qxy n/\Qxy n<=2147483647:=by unfold Qxy;rw[IntKind.wrap_i32];omega
def Qs0(n):wrap64 (wrap32 (IntKind.u64.wrap n%4294967296))=Qxy n:=by
 unfold Qxy;simp only[wrap64,wrap32,IntKind.wrap_i32,IntKind.wrap_u64];omega
def Qpp(n):wrap64 (wrap32 n)=Qxy n:=by
 unfold Qxy;simp only[wrap64,wrap32,IntKind.wrap_i32];omega
def J6(op a b:Int):Int:=
 if op==1 then Qxy (Qxy a+Qxy b)
 else if op==2 then Qxy (Qxy a-Qxy b)
 else if op==3 then Qxy (wrap64 (Qxy a * Qxy b))
 else if op==4 then(if Qxy b==0 then 0 else Qxy (wrap64 ((Qxy a).tdiv (Qxy b))))
 else if op==5 then Q22 (decide (Qxy a<Qxy b))
 else if op==6 then Q22 (Qxy a==Qxy b)
 else 0
def Vy{a b:Bool}(h:a=b):Ending.returned a=.returned b:=by rw[h]
def Qxp:(t:Ty)->t.den->List Bk
 | .int,n=> [n]
 | .bool,b=> [.bool b]
 | .pair a b,x=>Qxp a x.1++Qxp b x.2
 | .slice _,_=> []
theorem Q6s:(t:Ty)->(x:t.den)->t.flat=Bn->(Qxp t x)=t.sz
 | .int,_,_=>rfl
 | .bool,_,_=>rfl
 | .pair a b,x,h=>by simp only[Ty.flat,Bi]at h;simp[Qxp,Ty.sz,Q6s a x.1 h.1,Q6s b x.2 h.2]
def Q7l:(t:Ty)->(x:t.den)->∀u∈Qxp t x,u.oneCell'=Bn
 | .int,_,u,h=>by simp[Qxp]at h;subst h;rfl
 | .bool,_,u,h=>by simp[Qxp]at h;subst h;rfl
 | .pair a b,x,u,h=>by simp only[Qxp,List.mem_append]at h;exact h.elim (Q7l a x.1 u) (Q7l b x.2 u)
 | .slice _,_,_,h=>by simp[Qxp]at h
def Q55:(t:Ty)->t.den->Prop
 | .int,n=>Qyn n
 | .bool,_=>True
 | .pair a b,x=>Q55 a x.1/\Q55 b x.2
 | .slice e,xs=>∀x:e.den,x∈(show List e.den from xs)->Q55 e x
def Rd.enc: {t:Ty}-> {w:Bh}-> {vs:List Bk}-> {x:t.den}->t.flat=Bn->Rd t w vs x->vs=Qxp t x/\Q55 t x
 | .int,_,_,_,_,h=>⟨h.1,h.2⟩
 | .bool,_,vs,b,_,h=>⟨h,trivial⟩
 | .pair a b,_,_,_,hf,⟨v1,v2,e,h1,h2⟩=>by simp only[Ty.flat,Bi]at hf;obtain⟨B,f1⟩:=Rd.enc hf.1 h1;obtain⟨C,E⟩:=Rd.enc hf.2 h2;exact⟨by rw[e,B,C];rfl,f1,E⟩
theorem Ow.of_enc: {t:Ty}->(w:Bh)-> {x:t.den}->t.flat=Bn->Q55 t x->Ow t w (Qxp t x) x []
 | .int,_,_,_,h=>⟨rfl,h,rfl⟩
 | .bool,_,_,_,_=>⟨rfl,rfl⟩
 | .pair a b,w,x,hf,h=>by simp only[Ty.flat,Bi]at hf;exact⟨_,_,[],[],rfl,rfl,Ow.of_enc w hf.1 h.1,Ow.of_enc w hf.2 h.2⟩
def Qa9(t:Ty)(xs:List t.den):List Bk:=xs.flatMap (Qxp t)
theorem Q5a{t}(h:t.flat=Bn)(xs):(Qa9 t xs).length=xs * t.sz:=by
 induction xs with
 |nil=>simp[Qa9]
 |cons x r ih=>grind[Qa9,Q6s]
theorem Qi5{t}(h:t.flat=Bn)(xs:List t.den)(i:Nat)(B):((Qa9 t xs).drop (i * t.sz)).take t.sz=Qxp t xs[i]:=by
 induction xs generalizing i with
 |nil=>simp at B
 |cons x r ih=>
  have C:=Q6s t x h;unfold Qa9 at ih⊢;rw[List.flatMap_cons];cases i with
  |zero=>simp[<-C]
  |succ i=>grind[List.drop_drop,List.drop_left]
def Qrt{t}(h:t.flat=Bn)(E:0<t.sz)(xs j u)(F:(Qa9 t xs)[j]?=R u):
  ∃(B:j / t.sz<xs),(Qxp t xs[j / t.sz])[j%t.sz]?=R u:=by
 have C:=(Ei.1 F).1;rw[Q5a h]at C;have B:j / t.sz<xs:=Nat.div_lt_of_lt_mul (by rw[Nat.mul_comm];exact C);refine⟨B, ?_⟩;rw[<-Qi5 h xs _ B,Cm,if_pos (Nat.mod_lt _ E),Cu];grind[Nat.div_add_mod]
theorem Qto.cells{t w v}{xs:List t.den}(E:t.flat=Bn)(F:0<t.sz)(h:Rd (.slice t) w [v] xs):
  (v=A N 0 0/\xs=[])\/∃b o B,v=A (R ⟨b,o,N⟩) xs B/\∀j u,(Qa9 t xs)[j]?=R u->w.cell? ((⟨b,o,N⟩:Cp).add j)=R u:=by
 rcases Ju h with h|⟨b,o,B,hv,hl,C,hi⟩
 ·exact .inl h
 refine .inr ⟨b,o,B,hv,λj u G=> ?_⟩;obtain⟨H,J⟩:=Qrt E F xs j u G;obtain⟨cs,O,K,L⟩:=hi _ H;obtain⟨rfl,_⟩:=L.enc E;have C:=(Ei.1 J);have:=K (j%t.sz) C.1;rw[C.2]at this;have M:(⟨b,o,N⟩:Cp).add j=⟨b,o+j / t.sz * t.sz+j%t.sz,N⟩:=by
  have:o+j / t.sz * t.sz+j%t.sz=o+j:=by rw[Hp,Nat.mul_comm,Nat.div_add_mod]
  rw[this];unfold Addr.add;split<;>simp_all
 rw[M];exact this
theorem Qto.fits{t w v}{xs:List t.den}(B:t.flat=Bn)(h:Rd (.slice t) w [v] xs):Q55 (.slice t) xs:=by
 obtain⟨p,H,_,_,_,C⟩:=(Ju h).gen;intro x E;obtain⟨j,F,rfl⟩:=Av.1 E;obtain⟨b,o,_,cs,_,_,G⟩:=C j F;exact(G.enc B).2
def Qxu(t:Ty)(e:Cd)(B:Nat)(w:Bh)(v:Bk)(xs:List t.den):Prop:=w.ownsRow B e t.sz v xs (Qa9 t xs)/\Q55 (.slice t) xs
theorem Qxu.new{t e B w v xs}(h:Qxu t e B w v xs)(F:t.flat=Bn):Qy7 (.slice t) B w [v] xs:=by
 obtain⟨h,H⟩:=h;rcases h.2 with⟨rfl,C⟩|⟨g,J,cur,rfl,K,G,C,L,M,O⟩
 ·have:xs=[]:=List.eq_nil_of_length_eq_zero C
  subst this;exact⟨[],⟨_,rfl,.inl ⟨rfl,rfl,N,rfl,by simp⟩⟩,by simp,by simp⟩
 have P:g<w:=(Al.1 G).1;refine⟨[g],⟨_,rfl,.inr ⟨g,0,J,cur,e,Ch xs [],rfl,C,L,G,by rw[M];omega,by simp,by simp,λi E=> ?_⟩⟩,by simp,by simp;exact⟨K,P⟩⟩;rw[Cg];have S:(cur.toList.drop (i * t.sz)).take t.sz=Qxp t xs[i]:=by
  rw[<-Qi5 F xs i E,<-O,List.drop_take,List.take_take];congr 1
  have:i * t.sz+t.sz<=xs * t.sz:=by rw[<-Dv];exact Bd _ E
  omega
 rw[S];have T:(Ch xs ([]:List Nat)).getD i []=[]:=by grind
 rw[T];exact Ow.of_enc w F (H _ (As E))
theorem Qxu.empty(t e B w):Qxu t e B w (A N 0 0) []:=⟨World.ownsRow_nil w B e t.sz,λx C=>by simp at C⟩
def Q4f{P}(w){t}(J:t.flat=Bn)(M:0<t.sz)(B C O e i z E)(K:P.underlying C=R (.slice e))(L:P.info? e=R i)(V:i.zero=R z)(W:i.size=t.sz)(X:i.bytes=E)(Y:z.cells.size=t.sz)(a:E<=100){v u xs}{ys:List t.den}(F:Qxu t e B w v xs)(S:Rd (.slice t) w [u] ys)(c:xs.length+ys.length<=1000000000)(f:B<=w):
  ∃G w',(Fb #[C,C] O #[v,u]).run P w=.ok G w'/\Qxu t e B w' G (xs++ys)/\w.grownBy w' v.ownBlock:=by
 have h:=Qto.fits J S;have j:Q55 (.slice t) (xs++ys):=λx H=>(At0.1 H).elim (F.2 x) (h x);rcases Qto.cells J M S with⟨rfl,rfl⟩|⟨b,o,T,rfl,k⟩
 ·refine⟨v,w, ?_,by rw[List.append_nil];exact F,⟨rfl,rfl,rfl,Aj _,λ_ _ _=>rfl⟩⟩
  rcases F.1.2 with⟨rfl,U⟩|⟨g,T,cur,rfl,q,r,U,s,y,A0⟩
  ·simp[Fb,run_underlying K,sizeOf,typeInfo,L,Builtin.lenOf,Builtin.firstCells,loadCells,loadCellsFrom]
  simp[Fb,run_underlying K,sizeOf,typeInfo,L,Builtin.lenOf,Builtin.firstCells,loadCells,loadCellsFrom,U];rfl
 have l:(Qa9 t ys).length=ys * t.sz:=Q5a J ys
 obtain⟨G,w',m,h2,n,_⟩:=run_append_own (P:=P) w B C O e i z t.sz E K L V W X Y M v xs (Qa9 t xs) F.1 (b,o) ys T (Qa9 t ys) l k
  (λx H=>by unfold Qa9 at H;obtain⟨d,_,p⟩:=List.mem_flatMap.1 H;exact Q7l t d x p) (by unfold Bu;omega)
  (by have:(xs.length+ys.length) * E<=1000000000 * 100:=Nat.mul_le_mul c a;omega) f
 refine⟨G,w',m,⟨?_,j⟩,n⟩;grind[Qa9]
def Ql{P}(w){F rest o a Q}(G:o.guard=N)(s x C)(H:o.op=Op.call {callee:=Callee.builtin Builtin.append,args:=#[s,x],argTypes:=#[C,C]}){t}(hf:t.flat=Bn)(hs0:0<t.sz)(B e i z bytes)(ht:P.underlying C=R (.slice e))(hi:P.info? e=R i)(hz:i.zero=R z)(hsize:i.size=t.sz)(hby:i.bytes=bytes)(hzs:z.cells.size=t.sz)(hb:bytes<=100){v u xs}{ys:List t.den}(hv:a.eval s=v)(hu:a.eval x=u)(hown:Qxu t e B w v xs)(hrd:Rd (.slice t) w [u] ys)(hlen:xs.length+ys.length<=1000000000)(hB:B<=w)(hK:∀E w',Qxu t e B w' E (xs++ys)->w.grownBy w' v.ownBlock->wpList P F Q rest (a.put o.dst E) w'):wpList P F Q (o::rest) a w:=by
 refine wpList_plain G λK J=> ?_;obtain⟨E,w',L,M,O⟩:=Q4f (P:=P) w hf hs0 B C o.type e i z bytes ht hi hz hsize hby hzs hb hown hrd hlen hB;unfold Oper.wp;simp[execOp,H,resolve,invoke,builtin,hv,hu,L,Result.andThen];exact J _ _ (hK E w' M O)
def Qnm{a}(h:Qyn a):(Lit.int Z a).wf=Bn:=by
 unfold Qyn at h;simp[Lit.wf,IntKind.min,IntKind.max,IntKind.signed,IntKind.bits];omega
def Q44{P}(w){m}(T:m<=10000){k}(G:P.keyTypeAt m k=Bn){x y B C E}(H:x.formed P k=Bn)(J:y.formed P k=Bn)(K:P.keyLits E k x.cells.toList=R B)(L:P.keyLits E k y.cells.toList=R C)(r)(M:r=Bn↔B=C):
  (Op.equal k x y).run P w=.ok r w:=by
 obtain⟨O,F,S⟩:=run_equalIn_deep (10000-m) m k G w _ _ x y B C H J K L;have e:10000-m+m=10000:=by omega
 rw[e]at F;have:O=r:=by rw[Bool.eq_iff_iff,S,M]
 rw[<-this];exact F
def Qd6{P w k xs ys r}(h:(Op.equal k (.agg xs) (.agg ys)).run P w=.ok r w):(binOp .eql k (.agg xs) (.agg ys)).run P w=.ok r w:=by
 show(Sem.bind (Op.equal k (.agg xs) (.agg ys)) λb=>Sem.pure (Value.bool b)).run P w=_;rw[Sem.run_bind',h];rfl
def Q5g{P w k xs ys r}(h:(Op.equal k (.agg xs) (.agg ys)).run P w=.ok r w):(binOp .neq k (.agg xs) (.agg ys)).run P w=.ok (.bool !r) w:=by
 show(Sem.bind (Op.equal k (.agg xs) (.agg ys)) λb=>Sem.pure (Value.bool !b)).run P w=_;rw[Sem.run_bind',h];rfl
def Qa0{a b}(B:Qyn a)(C:Qyn b):prog.keyLits 2 207 [a,b]=R [Lit.int Z a,Lit.int Z b]:=by
 have E:=Qnm B;have F:=Qnm C;have G:prog.cellsOf 207=2:=by kernel_rfl
 have H:prog.cellsOf 2=1:=by kernel_rfl
 simp[Program.keyLits,underlying207,underlying2,G,H,E,F]
def Qdo(w){a b c d}(B:Qyn a)(C:Qyn b)(E:Qyn c)(F:Qyn d):(Op.equal 207 (.agg #[a,b]) (.agg #[c,d])).run prog w=.ok (a==c && b==d) w:=
 Q44 (m:=2) w (by omega) (by kernel_rfl) (by kernel_rfl) (by kernel_rfl) (Qa0 B C) (Qa0 E F) _ (by simp)
def Qkj{a b c d}(B:Qyn a)(C:Qyn b)(E:Qyn c)(F:Qyn d)(w):(binOp .eql 207 (.agg #[a,b]) (.agg #[c,d])).run prog w=.ok (a==c && b==d) w:=Qd6 (Qdo w B C E F)
def Qln{a b c d}(B:Qyn a)(C:Qyn b)(E:Qyn c)(F:Qyn d)(w):(binOp .neq 207 (.agg #[a,b]) (.agg #[c,d])).run prog w=.ok (.bool !(a==c && b==d)) w:=Q5g (Qdo w B C E F)
def Q4c{a b}(B:Qyn a)(C:Qyn b):prog.keyLits 2 40 [a,b]=R [Lit.int Z a,Lit.int Z b]:=by
 have E:=Qnm B;have F:=Qnm C;have G:prog.cellsOf 40=2:=by kernel_rfl
 have H:prog.cellsOf 2=1:=by kernel_rfl
 simp[Program.keyLits,underlying40,underlying2,G,H,E,F]
def Qe6(w){a b c d}(B:Qyn a)(C:Qyn b)(E:Qyn c)(F:Qyn d):(Op.equal 40 (.agg #[a,b]) (.agg #[c,d])).run prog w=.ok (a==c && b==d) w:=
 Q44 (m:=2) w (by omega) (by kernel_rfl) (by kernel_rfl) (by kernel_rfl) (Q4c B C) (Q4c E F) _ (by simp)
def Qs2{a b c d}(B:Qyn a)(C:Qyn b)(E:Qyn c)(F:Qyn d)(w):(binOp .eql 40 (.agg #[a,b]) (.agg #[c,d])).run prog w=.ok (a==c && b==d) w:=Qd6 (Qe6 w B C E F)
def Q3a{a b c d}(B:Qyn a)(C:Qyn b)(E:Qyn c)(F:Qyn d)(w):(binOp .neq 40 (.agg #[a,b]) (.agg #[c,d])).run prog w=.ok (.bool !(a==c && b==d)) w:=Q5g (Qe6 w B C E F)
def Qa3{a b}(B:Qyn a)(C:Qyn b):prog.keyLits 2 143 [a,b]=R [Lit.int Z a,Lit.int Z b]:=by
 have E:=Qnm B;have F:=Qnm C;have G:prog.cellsOf 143=2:=by kernel_rfl
 have H:prog.cellsOf 2=1:=by kernel_rfl
 simp[Program.keyLits,underlying143,underlying2,G,H,E,F]
def Qny(w){a b c d}(B:Qyn a)(C:Qyn b)(E:Qyn c)(F:Qyn d):(Op.equal 143 (.agg #[a,b]) (.agg #[c,d])).run prog w=.ok (a==c && b==d) w:=
 Q44 (m:=2) w (by omega) (by kernel_rfl) (by kernel_rfl) (by kernel_rfl) (Qa3 B C) (Qa3 E F) _ (by simp)
def Qff{a b c d}(B:Qyn a)(C:Qyn b)(E:Qyn c)(F:Qyn d)(w):(binOp .neq 143 (.agg #[a,b]) (.agg #[c,d])).run prog w=.ok (.bool !(a==c && b==d)) w:=Q5g (Qny w B C E F)
def Qa8{a b c d}(B:Qyn a)(C:Qyn b)(E:Qyn c)(F:Qyn d):prog.keyLits 3 146 [a,b,c,d]=R [Lit.int Z a,Lit.int Z b,Lit.int Z c,Lit.int Z d]:=by
 have G:prog.cellsOf 146=4:=by kernel_rfl
 have H:prog.cellsOf 40=2:=by kernel_rfl
 have J:=Q4c B C;have K:=Q4c E F;unfold Program.keyLits;simp[underlying146,G,H,J,K]
def Qke{a b c d a' b' c' d'}(B:Qyn a)(C:Qyn b)(E:Qyn c)(F:Qyn d)(G:Qyn a')(H:Qyn b')(J:Qyn c')(K:Qyn d')(w):
  (binOp .neq 146 (.agg #[a,b,c,d]) (.agg #[a',b',c',d'])).run prog w=.ok (.bool !(a==a' && b==b' && c==c' && d==d')) w:=
 Q5g (Q44 (m:=3) w (by omega) (by kernel_rfl) (by kernel_rfl) (by kernel_rfl) (Qa8 B C E F) (Qa8 G H J K) _ (by simp[and_assoc]))
theorem Qci(g:Nat):∀(vs:List Bk) (o:Nat) (w:Bh),w.setCells g o vs=Yu w g o vs
 | [],_,_=>rfl
 |v::r,o,w=>by rw[World.setCells,Yu,Qci g r]
theorem Qan{B Gs:List (List Nat)}{i:Nat}(h:i<B):(B++Gs).getD i []=B.getD i []:=by
 grind
theorem Q9j{B Gs:List (List Nat)}{n j:Nat}(h:B=n):(B++Gs).getD (n+j) []=Gs.getD j []:=by
 grind
def Ow.joined{e w w'}{xs ys:List e.den}{g o C B T}{E Gs:List (List Nat)}{us vs:Nat->List Bk}(L:xs.length+ys.length<=C)(M:C<=Bu)(O:w'.heap[g]?=R (.cells B T (0,0)))(P:o+C * e.sz<=B.size)(H:E.length=xs)(S:Gs.length=ys)(U:∀(i:Nat) (h:i<xs.length),Ow e w (us i) xs[i] (E.getD i []))(V:∀(i:Nat) (h:i<ys.length),Ow e w (vs i) ys[i] (Gs.getD i []))(W:∀i,i<xs.length->Q17 B (o+i * e.sz) e.sz=us i)(X:∀i,i<ys.length->Q17 B (o+(xs.length+i) * e.sz) e.sz=vs i)(Y:∀b∈E.flatten,w'.heap[b]?=w.heap[b]?)(a:∀b∈Gs.flatten,w'.heap[b]?=w.heap[b]?):
  Ow (.slice e) w' [A (R (g,o)) (xs.length+ys.length) C] (xs++ys) (g::(E++Gs).flatten):=by
 refine⟨_,rfl,.inr ⟨g,o,C,B,T,E++Gs,by rw[Bo],by rw[Bo];exact L,M,O,P,rfl,by rw[Bo,Bo,H,S],λi J=> ?_⟩⟩;rw[Bo]at J;show Ow e w' (Q17 B (o+i * e.sz) e.sz) _ _;by_cases F:i<xs.length
 ·rw[W i F,Ie F,Qan (by omega)]
  exact(U i F).kept λb G=>Y b (Zv (by omega) G)
 obtain⟨j,rfl⟩:∃j,i=xs.length+j:=⟨i-xs.length,by omega⟩;have K:j<ys.length:=by omega
 rw[X j K,Q9j H];have:(xs++ys)[xs.length+j]'(by rw[Bo];exact J)=ys[j]:=by grind
 rw[this];exact(V j K).kept λb G=>a b (Zv (by omega) G)
theorem Q7e{l:List Bk}{a n k s}(h:k * s+s<=n):((l.drop a).take n|>.drop (k * s)).take s=(l.drop (a+k * s)).take s:=by
 grind[List.drop_take,List.drop_drop]
def Qdb{cur o m}{s:Nat}{B:List Bk}(E:B=m * s)(F:o+B.length<=cur.size){j}(G:j<m):
  Q17 (Q1u cur o B) (o+j * s) s=(B.drop (j * s)).take s:=by
 have h:=Q5m F;have H:j * s+s<=B:=by rw[E,<-Dv];exact Bd _ G
 have C:=Q7e (l:=(Q1u cur o B).toList) (a:=o) (k:=j) (s:=s) H;have J:List.take B (List.drop o (Q1u cur o B).toList)=B:=h;rw[J]at C;exact C.symm
def Qgi{E B C:List Bk}{s i:Nat}{n:Nat}(F:E=n * s)(h:i<n):Q17 (E.toArray++B.toArray++C.toArray) (0+i * s) s=(E.drop (i * s)).take s:=by
 have G:i * s+s<=E:=by rw[F,<-Dv];exact Bd _ h
 unfold Q17;grind
def Qes{E B C:List Bk}{s j n m:Nat}(F:E=n * s)(G:B=m * s)(h:j<m):Q17 (E.toArray++B.toArray++C.toArray) (0+(n+j) * s) s=(B.drop (j * s)).take s:=by
 have H:j * s+s<=B:=by rw[G,<-Dv];exact Bd _ h
 unfold Q17;simp only[Array.toList_append,Cg];rw[Co,Hx,<-F,List.drop_length_add_append,List.drop_append_of_le_length (by omega),List.take_append_of_le_length (by rw[Dp];omega)]
theorem Q79{P}(w){e}(J f B i z n)(ht:P.underlying J=R (.slice B))(H:P.info? B=R i)(hz:i.zero=R z)(g:i.size=e.sz)(AA:i.bytes=n)(AN:z.cells.size=e.sz)(hb:n<=200){v}{xs ys:List e.den}{F}{Gs:List (List Nat)}(AB:Ow (.slice e) w [v] xs F)(hF:F.Nodup)(a)(m:Nat)(c)(hm:ys=m)(C:List Bk)(W:C=m * e.sz)(A4:∀j u,C[j]?=R u->w.cell? (a.add j)=R u)(h1:∀u∈C,u.oneCell'=Bn)(AC:Gs=m)(A5:∀(i:Nat) (h:i<ys),Ow e w ((C.drop (i * e.sz)).take e.sz) ys[i] (Gs.getD i []))(hG:Gs.flatten.Nodup)(r:∀b∈Gs.flatten,b∉F)(AO:0<m)(AP:xs.length+m<=1000000000):
  ∃(p:Option Cp) (G:Nat) (w':Bh) (Y:List Nat),(Fb #[J,J] f #[v,A (R a) m c]).run P w=.ok (A p (xs.length+m) G) w'/\Ow (.slice e) w' [A p (xs.length+m) G] (xs++ys) Y/\Y.Nodup/\
   (∀b∈Y,b∈F\/b∈Gs.flatten\/b=w.heap.size)/\Q1 (λb=>b∈F/\v.ownBlock=R b) w w'/\((A p (xs.length+m) G).ownBlock=v.ownBlock\/p=R ⟨w,0,N⟩):=by
 subst hm;have A6:∀b∈Gs.flatten,b<w.heap.size:=by intro b V;obtain⟨L,hL,AQ⟩:=Hg.1 V;obtain⟨j,S,rfl⟩:=Av.1 hL;exact(A5 j (by omega)).lt b (by rw[Ab,Ad S];exact AQ)
 have AD:(xs.length+ys.length) * n<=140737488355328:=by have:(xs.length+ys.length) * n<=1000000000 * 200:=Nat.mul_le_mul AP hb;omega
 have t:xs.length+ys.length<=Bu:=by unfold Bu;omega
 have A7:=AB.lt
 have AE:∀(K:List Bk) (k:Option Cp) (E:Nat) (M:List (List Nat)),v=A k xs E->E<xs+ys.length->(∀b∈M.flatten,b∈F)->M.flatten.Nodup->K.length=xs * e.sz->(∀b,k=R b->∀j u,K[j]?=R u->w.cell? (b.add j)=R u)->(k=N->xs=[]/\E=0/\K=[])->
   M.length=xs->(∀(i:Nat) (h:i<xs),Ow e w ((K.drop (i * e.sz)).take e.sz) xs[i] (M.getD i []))->
   ∃(p:Option Cp) (G:Nat) (w':Bh) (Y:List Nat),(Fb #[J,J] f #[v,A (R a) ys c]).run P w=.ok (A p (xs.length+ys.length) G) w'/\Ow (.slice e) w' [A p (xs.length+ys.length) G] (xs++ys) Y/\Y.Nodup/\
    (∀b∈Y,b∈F\/b∈Gs.flatten\/b=w.heap.size)/\Q1 (λb=>b∈F/\v.ownBlock=R b) w w'/\((A p (xs.length+ys.length) G).ownBlock=v.ownBlock\/p=R ⟨w,0,N⟩):=by
  intro K k E M U AF x AR y AS AT A0 A1;have AU:=grownCap_ge w (xs.length+ys.length) E B;have AV:grownCap w (xs.length+ys.length) E B<=Bu:=grownCap_le_maxLen w (xs.length+ys.length) E B t
  have A2:(Fb #[J,J] f #[v,A (R a) ys c]).run P w=
    .ok (A (R ⟨w,0,N⟩) (xs.length+ys.length) (grownCap w (xs.length+ys.length) E B))
     (w.drew.alloc (.cells (K.toArray++C.toArray++Gb z.cells (grownCap w (xs.length+ys.length) E B-(xs.length+ys.length))) B)):=by
   cases k with
   |none=>obtain⟨hx,AW,ho⟩:=AT rfl;subst hx;subst AW;subst ho;rw[U];have:=run_append_nil (P:=P) w J f B i z ht H hz a ys c C (by rw[g];exact W) A4 AO (by unfold Bu at t;simp at t;omega) (by rw[AA];simp at AD;omega);simpa using this
   |some b0=>rw[U];exact run_append_grow (P:=P) w J f B i z ht H hz b0 xs E K (by rw[g];exact y) (AS b0 rfl) a ys c C (by rw[g];exact W) A4 AF (by unfold Bu at t;omega) (by rw[AA];exact growslice_fits AF AD)
  refine⟨_,_,_,w.heap.size::(M++Gs).flatten,A2, ?_, ?_, ?_,((Q1.refl _ w).drew).alloc _,.inr rfl⟩
  ·have AG:(Gb z.cells (grownCap w (xs.length+ys.length) E B-(xs.length+ys.length)))=(Gb z.cells (grownCap w (xs.length+ys.length) E B-(xs.length+ys.length))).toList.toArray:=by simp
   have A8:(K.toArray++C.toArray++Gb z.cells (grownCap w (xs.length+ys.length) E B-(xs.length+ys.length))).size=grownCap w (xs.length+ys.length) E B * e.sz:=by rw[Array.size_append,Array.size_append,List.size_toArray,List.size_toArray,y,W,size_zeroCells,AN,<-Hx,<-Hx];congr 1;omega
   have AX:(w.drew.alloc (.cells (K.toArray++C.toArray++Gb z.cells (grownCap w (xs.length+ys.length) E B-(xs.length+ys.length))) B)).heap[w.heap.size]?=R (.cells (K.toArray++C.toArray++Gb z.cells (grownCap w (xs.length+ys.length) E B-(xs.length+ys.length))) B (0,0)):=by exact Bg w.drew _
   refine Ow.joined (w:=w) (T:=B) AU AV AX (by rw[A8,Cg];exact Aj _) A0 AC A1 A5 (λi H=> ?_) (λj S=> ?_) (λb V=> ?_) (λb V=> ?_)
   ·rw[AG];exact Qgi y H
   ·rw[AG];exact Qes y W S
   ·exact Az w.drew _ b (A7 b (x b V))
   exact Az w.drew _ b (A6 b V)
  ·rw[Ar,Gu,Ba,At0]
   refine⟨λh=> ?_,AR,hG,λp hp q hq d=>r q hq (d▸x p hp)⟩;rcases h with h|h
   ·have:=A7 _ (x _ h);omega
   have:=A6 _ h;omega
  intro b V;rw[Aq,Gu,At0]at V;rcases V with h|h|h
  ·exact .inr (.inr h)
  ·exact .inl (x b h)
  exact .inr (.inl h)
 obtain⟨v',ev,h⟩:=AB;obtain rfl:v=v':=by simpa using ev
 rcases h with⟨hx,AH,a0,U,hs⟩|⟨b,o,G,cur,T,M,U,hl,hm,l,A8,AH,A0,A1⟩
 ·subst hx
  exact AE [] a0 0 [] (by rw[U];rfl) (by simp;omega) (by simp) (by simp) (by simp) (by simp) (λ_=>⟨rfl,rfl,rfl⟩) rfl (λi H=>by simp at H)
 subst AH;have A3:=Ar.1 hF;have AZ:b<w.heap.size:=(Al.1 l).1;have AI:o+xs.length * e.sz<=cur.size:=by have:xs.length * e.sz<=G * e.sz:=Bd _ hl;omega
 by_cases A9:xs.length+ys.length<=G
 ·have AJ:o+xs.length * e.sz+C.length<=cur.size:=by
   have h2:(xs.length+ys.length) * e.sz<=G * e.sz:=Bd _ A9;rw[W];rw[Hx]at h2;omega
  have A2:=run_append_room_cells (P:=P) w J f B i ht H b o xs G a ys c C (by rw[g];exact W) A4 h1 A9
   (λj S=>by simp only[Er,l,g];simp;omega) (λj S=>by simp[World.frozen?,l])
  rw[g,Qci,<-U]at A2;refine⟨_,_,_,b::(M++Gs).flatten,A2, ?_, ?_, ?_,Zx (X:=λc=>c∈b::M.flatten/\v.ownBlock=R c) ⟨Ae,by rw[U];rfl⟩ C _ _,.inl (by rw[U];rfl)⟩
  ·have AK:Q1 (λc=>c=b) w (Yu w b (o+xs.length * e.sz) C):=Zx (X:=λc=>c=b) rfl C _ _
   refine Ow.joined (w:=w) (T:=T) A9 hm (Jn C _ _ _ l) (by rw[Q2k];exact A8) A0 AC A1 A5 (λi H=> ?_) (λj S=> ?_) (λc O=> ?_) (λc O=> ?_)
   ·rw[Q4r AJ (by
     left;have:i * e.sz+e.sz<=xs * e.sz:=by rw[<-Dv];exact Bd _ H
     omega)]
    rfl
   ·have:=Qdb (s:=e.sz) W AJ S
    rw[Hx,<-Hp];exact this
   ·exact AK.block c (A7 c (Aa _ O)) (λd=>A3.1 (d▸O))
   exact AK.block c (A6 c O) (λd=>r c O (d▸Ae))
  ·rw[Ar,Gu,Ba,At0]
   refine⟨λh=> ?_,A3.2,hG,λp hp q hq d=>r q hq (d▸Aa _ hp)⟩;rcases h with h|h
   ·exact A3.1 h
   exact r b h Ae
  intro c O;rw[Aq,Gu,At0]at O;rcases O with h|h|h
  ·exact .inl (h▸Ae)
  ·exact .inl (Aa _ h)
  exact .inr (.inl h)
 refine AE (Q17 cur o (xs.length * e.sz)) (R ⟨b,o,N⟩) G M U (by omega) (λc O=>Aa _ O) A3.2 (Q0j AI) (λb0 AL j u S=> ?_) (by simp) A0 (λi H=> ?_)
 ·simp only[Option.some.injEq]at AL
  subst AL;have hr:=Q4b l o (xs.length * e.sz) AI;have AM:=(Ei.1 S);have:=hr j AM.1;rw[AM.2]at this;have AY:(⟨b,o,N⟩:Cp).add j=⟨b,o+j,N⟩:=by unfold Addr.add;split<;>simp_all
  rw[AY];exact this
 unfold Q17;rw[Q7e (by rw[<-Dv];exact Bd _ H)];exact A1 i H
def Q5b{P}(w){e}(E K H i z J)(L:P.underlying E=R (.slice H))(M:P.info? H=R i)(O:i.zero=R z)(S:i.size=e.sz)(T:i.bytes=J)(U:z.cells.size=e.sz)(V:J<=200){v}{xs ys:List e.den}{F}{Gs:List (List Nat)}(W:Ow (.slice e) w [v] xs F)(X:F.Nodup)(a:Cp)(m c:Nat)(Y:ys=m)(B:List Bk)(d:B=m * e.sz)(f:∀j u,B[j]?=R u->w.cell? (a.add j)=R u)(g:∀u∈B,u.oneCell'=Bn)(k:Gs=m)(l:∀(i:Nat) (h:i<ys),Ow e w ((B.drop (i * e.sz)).take e.sz) ys[i] (Gs.getD i []))(n:Gs.flatten.Nodup)(o:∀b∈Gs.flatten,b∉F)(q:0<m)(r:xs.length+m<=1000000000):
  ∃(p:Option Cp) (G:Nat) (w':Bh) (C:List Nat),(Fb #[E,E] K #[v,A (R a) m c]).run P w=.ok (A p (xs.length+m) G) w'/\Ow (.slice e) w' [A p (xs.length+m) G] (xs++ys) C/\C.Nodup/\
   (∀b∈C,b∈F\/b∈Gs.flatten\/b=w.heap.size)/\Q1 (λb=>b∈F) w w':=by
 obtain⟨p,G,w',C,s,t,x,y,h6,-⟩:=Q79 (P:=P) w (e:=e) E K H i z J L M O S T U V W X a m c Y B d f g k l n o q r;exact⟨p,G,w',C,s,t,x,y,h6.mono λ_ h=>h.1⟩
abbrev Wd:=Int×Int
abbrev Qb:=Int×Int×Int×List Int×List Wd
abbrev Qyb:=List Qb×Int×Wd×List Wd
abbrev Qy3:=Wd×Wd
abbrev Qxb:=Int×Int×List Wd×List Qy3×List Int
abbrev Ye:=Qyb×List Qxb×Int
abbrev Qy0:=List Qb
def aK(x:Qb):Int:=x.1
def aL(x:Qb):Int:=x.2.1
def aV(x:Qb):Int:=x.2.2.1
def aD(x:Qb):List Int:=x.2.2.2.1
def aW(x:Qb):List Wd:=x.2.2.2.2
def Q9x:Qb:=(0,0,0,[],[])
def Q9(n:List Qb)(i:Nat):Qb:=n.getD i Q9x
def Q7(n:List Qb)(i:Int):Qb:=Q9 n i.toNat
def mC(m:Qyb):List Qb:=m.1
def mF(m:Qyb):Int:=m.2.1
def mR(m:Qyb):Wd:=m.2.2.1
def mX(m:Qyb):List Wd:=m.2.2.2
def Q03(k:Int)(ports:Nat):Int:=if k==9 then(ports:Int)-1 else 0
def Zd(k v:Int)(d:List Int):Bool:=
 if k==6 then((d:Int)==0) && Qxi v (-2147483648) 2147483647
 else if k==7 then((d:Int)==0) && Qxi v 1 6
 else if k==8 then((d:Int)==1) && (Qxi v 1 6 && Qxi (d.getD 0 0) (-2147483648) 2147483647)
 else if k==9 then((d:Int)==0) && Qxi v 0 3
 else if k==12 then((d:Int)==0) && Q3p v
 else if k==10 then v==0 && (Qxi d 1 4 && d.all Q3p)
 else if k==11 then v==0 && (((d:Int)==2) && d.all Q3p)
 else v==0 && ((d:Int)==0)
def Yb(x:Qb):Bool:=
 decide (0<V4 (aK x) (Q03 (aK x) (aW x))) && (((aW x):Int)==V4 (aK x) (Q03 (aK x) (aW x))) && Zm (aK x) (aL x) && Zd (aK x) (aV x) (aD x)
def Jr(n:List Qb):Bool:=
 Qxi n 1 600 && (Bz n).all λ(i:Nat)=>Yb (Q9 n i) && ((aK (Q9 n i)==1)==((i:Int)==0))
def Q12(n:List Qb)(p:Wd):Bool:=Qxi p.1 0 ((n:Int)-1) && Qxi p.2 0 (((aW (Q7 n p.1)):Int)-1)
def Qe(n:List Qb)(p:Wd):Wd:=(aW (Q7 n p.1)).getD p.2.toNat (0,0)
def Q0x(n:List Qb)(p:Wd):Bool:= !(Qe n p==p) && (Q12 n (Qe n p) && Qe n (Qe n p)==p)
def Q0k(n:List Qb)(i:Nat):List Wd:=(Bz (aW (Q9 n i))).map λ(k:Nat)=>((i:Int),(k:Int))
def Qk(n:List Qb):List Wd:=(Bz n).flatMap (Q0k n)
def Yd(n:List Qb):Bool:=Jr n && (Qk n).all (Q0x n)
def Q0s(b:List Qy0):Bool:=decide ((b:Int)<=24) && b.all Yd
def Vm(p q:Wd):Bool:=decide (p.1<q.1)||(p.1==q.1 && decide (p.2<q.2))
def Yw(n:List Qb):List Qy3:=((Qk n).filter λp=>Vm p (Qe n p)).map λp=>(p,Qe n p)
def Zg(n:List Qb):List Qy3:=(Yw n).filter λw=>decide (0<w.1.2) && decide (0<w.2.2)
def V3(n:List Qb):Int:=n.foldl (λl x=>max l (aL x)) 0
def Y5(n:List Qb):List Wd:=
 ((Bz n).filter λ(i:Nat)=>i !=0 && ((Qe n ((i:Int),0)).2==0 && decide ((i:Int)<(Qe n ((i:Int),0)).1))).map λ(i:Nat)=>((i:Int),(Qe n (i,0)).1)
def Vj(c:List Int):Bool:=((c:Int)==7) && c.all λn=>Qxi n 0 1000000000
def Y9(k:Int):Bool:=Qxi k 2 12
def Zb(c:Qb):Qb:=(aK c,aL c,aV c,aD c,Ch ((aW c)+1) (0,0))
def Ze(c:Qb):Bool:=
 if aK c==0 then aL c==0 && (((aD c):Int)==0 && ((aW c):Int)==0)
 else if aK c==13 then aL c==0 && (aV c==0 && (((aD c):Int)==0 && decide (((aW c):Int)<2)))
 else Y9 (aK c) && Yb (Zb c)
def Q3t(size:Int)(c:Qb):Bool:=if aK c==0 then Qxi (aV c) (-1) (size-1)else Bn
def Zc(cs:List Qb)(w:Wd):Bool:=
 Qxi w.2 0 ((cs:Int)-1) && ((w.1==1 && Y9 (aK (Q7 cs w.2)))||(w.1==2 && aK (Q7 cs w.2)==13))
def Z8(m:Qyb):List Wd:=mR m::(mC m).flatMap aW
def Zn(cs:List Qb)(p:Wd):Bool:=
 Qxi p.2 1 ((cs:Int)-1) && (Qxi p.1 0 (p.2-1) && (Y9 (aK (Q7 cs p.1)) && Y9 (aK (Q7 cs p.2))))
def Jk(ws rs:List Wd)(i:Nat):Nat:=ws.countP (λw=>w.2==(i:Int))+(rs.countP (λp=>p.1==(i:Int))+rs.countP (λp=>p.2==(i:Int)))
def Q51(c:Qb)(u:Nat):Bool:=(!(Y9 (aK c))||u==1) && (!(aK c==13)||(u:Int)==2-((aW c):Int))
def V7(cs:List Qb):Nat->Wd->Bool
 |0,_=>Bm
 |n+1,w=>if w.1 !=2||(aW (Q7 cs w.2)).length==0 then Bn else V7 cs n ((aW (Q7 cs w.2)).getD 0 (0,0))
def Q7k(cs:List Qb)(i:Nat):Bool:= !(aK (Q9 cs i)==13)||V7 cs (cs+1) (2,i)
def Qx(cs:List Qb):Nat:=cs.countP λc=>aK c==0
def Zo(cs:List Qb):Nat->Int->Bool
 |0,p=>p== -1
 |n+1,p=>(Qxi p 0 ((cs:Int)-1) && aK (Q7 cs p)==0) && Zo cs n (aV (Q7 cs p))
def Q14(m:Qyb)(held rs:List Wd):Bool:=
 Qxi (mC m) 1 1500 && (decide (rs.length<=(mC m)) && ((mC m).all Ze && ((Z8 m++held).all (Zc (mC m)) && (rs.all (Zn (mC m)) &&
  ((Bz (mC m)).all (λi=>Q51 (Q9 (mC m) i) (Jk (Z8 m++held) rs i) && Q7k (mC m) i) && Zo (mC m) (Qx (mC m)) (mF m))))))
def wP(w:Qxb):Int:=w.1
def wV(w:Qxb):Int:=w.2.1
def wX(w:Qxb):List Wd:=w.2.2.1
def wL(w:Qxb):List Qy3:=w.2.2.2.1
def wC(w:Qxb):List Int:=w.2.2.2.2
def pM(p:Ye):Qyb:=p.1
def pW(p:Ye):List Qxb:=p.2.1
def pA(p:Ye):Int:=p.2.2
def Qbj:Qxb:=(0,0,[],[],[])
def Q3(p:Ye)(k:Nat):Qxb:=(pW p).getD k Qbj
def Jd(ws:List Qxb):List Wd:=ws.flatMap λw=>(wL w).flatMap λl=> [l.1,l.2]
def Qr(ws:List Qxb):List Wd:=ws.flatMap wX
def Qz(w:Qxb):Bool:=wP w==1||wP w==3
def Y4(n:Nat)(w:Qxb):Bool:=
 (Qxi (wP w) 1 4 && (Qxi (wV w) 0 ((n:Int)-1) && (Vj (wC w) && decide ((wL w).length<=1500)))) && (wP w==1||((wX w).length==0 && (wL w).length==0))
def Jw(p:Ye):Bool:=
 (Qxi (pW p) 1 4 && (mX (pM p)).length==0) && ((pW p).all (Y4 (pW p)) && ((((pW p).countP Qz:Nat):Int)==pA p && Q14 (pM p) (Jd (pW p)) (Qr (pW p))))
def Q2x(p:Ye):List Int:=((Bz (pW p)).filter λ(k:Nat)=>wP (Q3 p k) !=4).map λ(k:Nat)=>(k:Int)
def Qam{l r:List Nat}(F:l.Nodup)(B:∀a,a∈l->a∈r)(G:r.length<=l):∀a,a∈r->a∈l:=by
 induction l generalizing r with
 |nil=>grind
 |cons b l ih=>intro a J;have H:b∈r:=B b Ae;have C:=Ar.1 F;have K:(r.erase b).length=r-1:=List.length_erase_of_mem H;have:=ih (r:=r.erase b) C.2 (λc E=>(List.mem_erase_of_ne (λe=>C.1 (by rw[<-e];exact E))).2 (B c (Aa _ E))) (by simp only[Br]at G;omega);grind
def Q7c{α}(cs:List α)(d):(Bz cs).map (λi=>cs.getD i d)=cs:=by
 apply List.ext_getElem
 ·simp
 grind
def Qag{α}(cs:List α)(d p):cs.countP p=((Bz cs).filter λi=>p (cs.getD i d)).length:=by
 have h:=congrArg (List.countP p) (Q7c cs d);rw[List.countP_map]at h;rw[<-h,List.countP_eq_length_filter];rfl
def V9(cs:List Qb):Nat->Int->List Nat
 |0,_=> []
 |n+1,p=>p.toNat::V9 cs n (aV (Q7 cs p))
theorem Q31(cs:List Qb):∀(n:Nat) (p:Int),(V9 cs n p)=n
 |0,_=>rfl
 |n+1,p=>by rw[V9,Br,Q31 cs n]
def Ve{cs n p}(h:Zo cs (n+1) p=Bn):0<=p/\p.toNat<cs/\aK (Q7 cs p)=0/\Zo cs n (aV (Q7 cs p))=Bn:=by
 simp_all[Zo,Qj];omega
def Q46{cs p}(h:Zo cs 0 p=Bn):p= -1:=by
 simpa[Zo]using h
theorem Qbo{cs:List Qb}:∀ {n m:Nat} {p:Int},Zo cs n p=Bn->Zo cs m p=Bn->n=m
 |0,0,_,_,_=>rfl
 |0,m+1,p,h,k=>by have:=Q46 h;have:=(Ve k).1;omega
 |n+1,0,p,h,k=>by have:=Q46 k;have:=(Ve h).1;omega
 |n+1,m+1,p,h,k=>by rw[Qbo (Ve h).2.2.2 (Ve k).2.2.2]
def Q8d{cs:List Qb}:∀ {n:Nat} {p:Int} {q:Nat},Zo cs n p=Bn->q∈V9 cs n p->∃m,m<n/\Zo cs (m+1) (q:Int)=Bn
 |0,_,_,_,hq=>by simp[V9]at hq
 |n+1,p,q,h,hq=>by
  have B:=Ve h;rw[V9]at hq;rcases Aq.1 hq with rfl|hq
  ·exact⟨n,by omega,by rw[show((p.toNat:Nat):Int)=p from by omega];exact h⟩
  obtain⟨m,E,C⟩:=Q8d B.2.2.2 hq;exact⟨m,by omega,C⟩
theorem Q7g{cs:List Qb}:∀ {n:Nat} {p:Int},Zo cs n p=Bn->(V9 cs n p).Nodup
 |0,_,_=>by simp[V9]
 |n+1,p,h=>by have B:=Ve h;rw[V9,Ar];refine⟨λE=> ?_,Q7g B.2.2.2⟩;obtain⟨m,F,C⟩:=Q8d B.2.2.2 E;rw[show((p.toNat:Nat):Int)=p from by omega]at C;have:=Qbo h C;omega
theorem Qbl{cs n p q}(h:Zo cs n p=Bn)(B:q∈V9 cs n p):q<cs/\aK (Q9 cs q)=0:=by
 obtain⟨m,_,C⟩:=Q8d h B;have:=Ve C;grind[Q7]
def Qgg{cs p}(h:Zo cs (Qx cs) p=Bn)(i:Nat)(C:i<cs)(E:aK (Q9 cs i)=0):i∈V9 cs (Qx cs) p:=by
 have B:Qx cs=((Bz cs).filter λi=>aK (Q9 cs i)==0).length:=Qag cs Q9x (λc=>aK c==0);refine Qam (r:=(Bz cs).filter λi=>aK (Q9 cs i)==0) (Q7g h) (λa F=> ?_) (by rw[Q31,B];exact Aj _) i ?_
 ·grind[Qbl]
 grind
theorem Qy{cs i}(h):Q9 cs i=cs[i]:=by simp[Q9,List.getD_eq_getElem?_getD,h]
theorem Qas{cs p}(h:Zo cs (Qx cs) p=Bn):cs.all (Q3t cs)=Bn:=by
 rw[Bf];intro c E;obtain⟨i,C,rfl⟩:=Av.1 E;unfold Q3t;split
 ·rename_i F
  have G:aK (Q9 cs i)=0:=by rw[Qy C];simpa using F
  have H:=Qgg h i C G;obtain⟨m,_,J⟩:=Q8d h H;have B:=(Ve J).2.2.2;simp only[Q7,Int.toNat_natCast]at B;rw[Qy C]at B;rw[Qj];cases m with
  |zero=>have:=Q46 B;omega
  |succ m=>have:=Ve B;omega
 rfl
def Jm(cs:List Qb):Int->List Nat->Prop
 |p,[]=>p= -1
 |p,a::l=>p=(a:Int)/\a<cs/\aK (Q9 cs a)=0/\Jm cs (aV (Q9 cs a)) l
theorem Jm.of_chain{cs:List Qb}:∀ {n:Nat} {p:Int},Zo cs n p=Bn->Jm cs p (V9 cs n p)
 |0,_,h=>Q46 h
 |n+1,p,h=>by have B:=Ve h;exact⟨by omega,B.2.1,B.2.2.1,Jm.of_chain B.2.2.2⟩
theorem Z2{cs:List Qb}{i j c}:Q9 (cs.set i c) j=if i=j/\j<cs then c else Q9 cs j:=by
 grind[Q9]
theorem Jm.set{cs:List Qb}{i:Nat}{c:Qb}:∀ {l:List Nat} {p:Int},Jm cs p l->i∉l->Jm (cs.set i c) p l
 | [],_,h,_=>h
 |a::l,p,⟨h1,h2,h3,h4⟩,hn=>by
  have B:¬i=a:=λe=>hn (by rw[e];exact Ae);refine⟨h1,by rw[Bl];exact h2, ?_, ?_⟩
  ·rw[Z2,if_neg (λe=>B e.1)];exact h3
  rw[Z2,if_neg (λe=>B e.1)];exact Jm.set h4 λC=>hn (Aa _ C)
theorem Jm.release{cs i l p}(h:Jm cs p l)(C:i∉l)(B:i<cs):Jm (cs.set i (0,0,p,[],[])) i (i::l):=by
 refine⟨rfl,by rw[Bl];exact B, ?_, ?_⟩
 ·rw[Z2,if_pos ⟨rfl,B⟩];rfl
 rw[Z2,if_pos ⟨rfl,B⟩];exact h.set C
theorem Jm.chain{cs:List Qb}:∀ {l:List Nat} {p:Int},Jm cs p l->Zo cs l p=Bn
 | [],_,h=>by simp only[Jm]at h;simp[Zo,h]
 |a::l,p,⟨h1,h2,h3,h4⟩=>by subst h1;simp only[Br,Zo,Q7,Int.toNat_natCast,h3,Bi,Qj,beq_self_eq_true,and_true];exact⟨by omega,h4.chain⟩
def Qy5(w:Bh)(b:Nat):Prop:=∃cur T,w.heap[b]?=R (.cells cur T (0,0))
theorem Qy5.lt{w b}(h:Qy5 w b):b<w:=let ⟨_,_,h⟩:=h;(Al.1 h).1
theorem Qy5.free{w b}(h:Qy5 w b)(q:Nat):w.frozen? (b,q)=Bm:=by obtain⟨_,_,h⟩:=h;simp[World.frozen?,h]
theorem Qy5.frame{w w' b X}(h:Qy5 w b)(k:Q1 X w w')(hX:¬X b):Qy5 w' b:=by
 have B:=h.lt;obtain⟨c,T,h⟩:=h;exact⟨c,T,by rw[k.block b B hX];exact h⟩
theorem Qy5.keep{w w' b B n}(h:Qy5 w b)(k:Qc b B n w w'):Qy5 w' b:=by
 obtain⟨c,T,h⟩:=h;obtain⟨c',C,_⟩:=k c T h;exact⟨c',T,C⟩
theorem Qy2.keep{w w' b C n q cs}(h:Qy2 w b q cs)(B:Qy5 w b)(k:Qc b C n w w')(G:q+cs.length<=C\/C+n<=q):Qy2 w' b q cs:=by
 obtain⟨c,T,B⟩:=B;obtain⟨c',E,H,J⟩:=k c T B;intro j F;have:=h j F;simp only[Er,B,E]at this⊢;grind
theorem Qy2.frame{w w' b q cs X}(h:Qy2 w b q cs)(B:b<w)(k:Q1 X w w')(hX:¬X b):Qy2 w' b q cs:=
 λj C=>by rw[k.cell B hX];exact h j C
theorem Qc.trans{b B n a w w'}(h:Qc b B n a w)(k:Qc b B n w w'):Qc b B n a w':=by
 intro cur T C;obtain⟨E,F,G,H⟩:=h cur T C;obtain⟨J,K,L,M⟩:=k E T F;grind
theorem Qc.wide{b B n C E a w}(h:Qc b B n a w)(G:C<=B)(H:B+n<=C+E):Qc b C E a w:=by
 intro cur T F;obtain⟨J,K,L,M⟩:=h cur T F;grind
def Qy2.app{w b o v1 B}(h:Qy2 w b o (v1++B)):Qy2 w b o v1/\Qy2 w b (o+v1.length) B:=by
 refine⟨λj C=> ?_,λj C=> ?_⟩
 ·have:=h j (by rw[Bo];omega)
  grind
 have:=h (v1.length+j) (by rw[Bo];omega);grind
theorem Qy2.join{w b o v1 B}(E:Qy2 w b o v1)(F:Qy2 w b (o+v1.length) B):Qy2 w b o (v1++B):=by
 intro j G;by_cases C:j<v1
 ·rw[Ie C];exact E j C
 rw[List.getElem_append_right (by omega)];have:=F (j-v1.length) (by rw[Bo]at G;omega);grind
def Ow.agent{w us}{x:Qb}{G}(h:Ow Q4 w us x G):
  ∃(B:Option Cp) (C:Nat) (E:Option Cp) (F:Nat) (H J:List Nat),us=[I Z (aK x),I Z (aL x),I Z (aV x),A B (aD x) C,A E (aW x) F]/\G=H++J/\
   Ow (.slice .int) w [A B (aD x) C] (aD x) H/\Ow (.slice Q5) w [A E (aW x) F] (aW x) J/\Qyn (aK x)/\Qyn (aL x)/\Qyn (aV x):=by
 obtain⟨_,_,_,_,rfl,rfl,⟨rfl,M,rfl⟩,_,_,_,_,rfl,rfl,⟨rfl,O,rfl⟩,_,_,_,_,rfl,rfl,⟨rfl,P,rfl⟩,_,_,H,J,rfl,rfl,K,L⟩:=h;obtain⟨B,C,rfl,K⟩:=V5 K;obtain⟨E,F,rfl,L⟩:=V5 L;exact⟨B,C,E,F,H,J,rfl,by simp,K,L,M,O,P⟩
theorem Ow.mkAgent{w k l v}{d:List Int}{ws:List Wd}{E F G H J K B C}(L:Qyn k)(M:Qyn l)(O:Qyn v)(P:Ow (.slice .int) w [A E G H] d B)(S:Ow (.slice Q5) w [A F J K] ws C):
  Ow Q4 w [k,l,v,A E G H,A F J K] (k,l,v,d,ws) (B++C):=
 ⟨[_],_,[],B++C,rfl,rfl,⟨rfl,L,rfl⟩,[_],_,[],B++C,rfl,rfl,⟨rfl,M,rfl⟩,[_],_,[],B++C,rfl,rfl,⟨rfl,O,rfl⟩,[_],[_],B,C,rfl,rfl,P,S⟩
theorem Ow.nil{e}(w):Ow (.slice e) w [jN] [] []:=⟨_,rfl,.inl ⟨rfl,rfl,N,rfl,by simp⟩⟩
def Ow.freeCell{w v}(B:Qyn v):Ow Q4 w [(),(),v,jN,jN] (0,0,v,[],[]) []:=
 Ow.mkAgent (by unfold Qyn;omega) (by unfold Qyn;omega) B (Ow.nil w) (Ow.nil w)
def Ji(w:Bh)(cb o cap:Nat)(cs:List Qb)(Fs:List (List Nat)):Prop:=
 ∃cur T,(w,oC cb cur T)/\cs<=cap/\cap<=Bu/\o+cap * 5<=cur.size/\Fs.length=cs/\(cb::Fs.flatten).Nodup/\
  ∀(i:Nat) (h:i<cs),Ow Q4 w (Q17 cur (o+i * 5) 5) cs[i] (Fs.getD i [])
section
variable {w:Bh} {cb o cap:Nat} {cs:List Qb} {Fs:List (List Nat)}
theorem Ji.ow(h:Ji w cb o cap cs Fs):Ow (.slice Q4) w [A (R (cb,o)) cs cap] cs (cb::Fs.flatten):=by
 obtain⟨cur,T,B,C,E,F,G,J,H⟩:=h;exact⟨_,rfl,.inr ⟨cb,o,cap,cur,T,Fs,rfl,C,E,B,F,rfl,G,H⟩⟩
theorem Ji.rd(h:Ji w cb o cap cs Fs):Rd (.slice Q4) w [A (R (cb,o)) cs cap] cs:=h.ow.rd
def Ji.of_ow{v F}(h:Ow (.slice Q4) w [v] cs F)(C:F.Nodup)(E:cs≠ []):∃cb o cap Fs,v=A (R ⟨cb,o,N⟩) cs cap/\F=cb::Fs.flatten/\Ji w cb o cap cs Fs:=by
 obtain⟨G,H,h⟩:=h;obtain rfl:v=G:=by simpa using H
 rcases h with⟨J,_⟩|⟨b,o,cap,cur,T,Fs,K,L,M,O,P,B,S,U⟩
 ·exact absurd J E
 exact⟨b,o,cap,Fs,K,B,cur,T,O,L,M,P,S,B▸C,U⟩
def Ji.blk(h:Ji w cb o cap cs Fs):Qy5 w cb:=let ⟨cur,T,h1,_⟩:=h;⟨cur,T,h1⟩
theorem Ji.len(h:Ji w cb o cap cs Fs):Fs.length=cs:=let ⟨_,_,_,_,_,_,h5,_⟩:=h;h5
theorem Ji.lt(h:Ji w cb o cap cs Fs):∀b∈cb::Fs.flatten,b<w.heap.size:=h.ow.lt
theorem Ji.bound(h:Ji w cb o cap cs Fs):cs<=cap/\cap<=Bu:=let ⟨_,_,_,h1,h2,_⟩:=h;⟨h1,h2⟩
theorem Ji.cell(h:Ji w cb o cap cs Fs)(i:Nat)(B):∃us,us.length=5/\Qy2 w cb (o+i * 5) us/\Ow Q4 w us cs[i] (Fs.getD i []):=by
 obtain⟨cur,T,C,E,F,G,H,J,K⟩:=h;have L:o+i * 5+5<=cur.size:=by omega
 grind[Q17,Q4b]
theorem Ji.frame{w' X}(h:Ji w cb o cap cs Fs)(k:Q1 X w w')(hX:∀b∈cb::Fs.flatten,¬X b):Ji w' cb o cap cs Fs:=by
 have C:=h.lt;obtain⟨cur,T,E,F,G,H,J,K,L⟩:=h;have B:∀b∈cb::Fs.flatten,w'.heap[b]?=w.heap[b]?:=λb B=>k.block b (C b B) (hX b B);exact⟨cur,T,by rw[B cb Ae];exact E,F,G,H,J,K,λi M=>(L i M).kept λb O=>B b (Aa _ (Zv (by omega) O))⟩
end
theorem Qbb{Fs:List (List Nat)}{i}{j:Nat}{G}(h:j<Fs):(Fs.set i G).getD j []=if i=j then G else Fs.getD j []:=by
 grind
theorem Jc{Fs:List (List Nat)}{i b G}(h:b∈(Fs.set i G).flatten):b∈G\/∃j,j<Fs.length/\j≠i/\b∈Fs.getD j []:=by
 obtain⟨L,C,E⟩:=Hg.1 h;obtain⟨j,B,rfl⟩:=Av.1 C;rw[Bl]at B;by_cases e:i=j
 ·subst e
  left;simpa using E
 right;refine⟨j,B,λh=>e h.symm, ?_⟩;grind
theorem Q2p{Fs:List (List Nat)}{i G}(h:Fs.flatten.Nodup)(B:G.Nodup)(C:∀b∈G,∀j,j<Fs.length->j≠i->b∉Fs.getD j []):(Fs.set i G).flatten.Nodup:=by
 unfold List.Nodup at h⊢;rw[Dw]at h⊢;constructor
 ·grind
 rw[Du]at h⊢;grind
structure MS where
 cb:Nat
 o:Nat
 cap:Nat
 Fs:List (List Nat)
 Fx:List Nat
def MS.all(S:MS):List Nat:=S.cb::(S.Fs.flatten++S.Fx)
def MS.put(S:MS)(i:Int)(G:List Nat):MS:= {S with Fs:=S.Fs.set i.toNat G}
def Qg1(m:Qyb)(i:Int)(c:Qb):Qyb:=((mC m).set i.toNat c,mF m,mR m,mX m)
def Qi(m:Qyb)(c:Qb):Qyb:=((mC m).set (mF m).toNat c,aV (Q7 (mC m) (mF m)),mR m,mX m)
def Qd(m:Qyb)(i:Int):Qyb:=((mC m).set i.toNat (0,0,mF m,[],[]),i,mR m,mX m)
def Ya(m:Qyb)(a b:Int):Qyb:=(mC m,mF m,mR m,mX m++ [(min a b,max a b)])
def Qa(m:Qyb)(i:Int)(ws:List Wd):Qyb:=Qg1 m i (aK (Q7 (mC m) i),aL (Q7 (mC m) i),aV (Q7 (mC m) i),aD (Q7 (mC m) i),ws)
def Zh(w:Bh)(pb po:Nat)(m:Qyb)(S:MS):Prop:=
 ∃(px:Option Cp) (cx:Nat),Qy5 w pb/\Qy2 w pb po [A (R (S.cb,S.o)) (mC m) S.cap,(mF m),I Z (mR m).1,I Z (mR m).2,A px (mX m) cx]/\
  Qyn (mF m)/\Qyn (mR m).1/\Qyn (mR m).2/\Ji w S.cb S.o S.cap (mC m) S.Fs/\Ow (.slice Q5) w [A px (mX m) cx] (mX m) S.Fx/\(pb::S.all).Nodup
section
variable {w:Bh} {pb po:Nat} {m:Qyb} {S:MS}
def Zh.at(h:Zh w pb po m S):∃cs,cs.length=Qq.sz/\Qy2 w pb po cs/\Rd Qq w cs m:=by
 obtain⟨px,cx,J,B,C,E,F,G,H,K⟩:=h;exact⟨_,rfl,B,[_],_,rfl,G.rd,[_],_,rfl,⟨rfl,C⟩,[_,_],_,rfl,⟨[_],[_],rfl,⟨rfl,E⟩,⟨rfl,F⟩⟩,H.rd⟩
def Zh.blk(h:Zh w pb po m S):Qy5 w pb:=let ⟨_,_,h,_⟩:=h;h
theorem Zh.cells(h:Zh w pb po m S):Ji w S.cb S.o S.cap (mC m) S.Fs:=let ⟨_,_,_,_,_,_,_,h,_⟩:=h;h
theorem Zh.nodup(h:Zh w pb po m S):(pb::S.all).Nodup:=let ⟨_,_,_,_,_,_,_,_,_,h⟩:=h;h
theorem Zh.lt(h:Zh w pb po m S):∀b∈pb::S.all,b<w.heap.size:=by
 obtain⟨px,cx,E,G,H,J,K,C,F,L⟩:=h;intro b B;unfold MS.all at B;rw[Aq,Aq,At0]at B;rcases B with rfl|rfl|B|B
 ·exact E.lt
 ·exact C.blk.lt
 ·exact C.lt b (Aa _ B)
 exact F.lt b B
theorem Zh.frame{w' X}(h:Zh w pb po m S)(k:Q1 X w w')(hX:∀b∈pb::S.all,¬X b):Zh w' pb po m S:=by
 obtain⟨px,cx,C,G,H,J,K,L,E,M⟩:=h;have F:=hX pb Ae;refine⟨px,cx,C.frame k F,G.frame C.lt k F,H,J,K,L.frame k λb B=>hX b ?_,E.frame k λb B=>⟨E.lt b B,hX b ?_⟩,M⟩
 ·rcases Aq.1 B with rfl|B
  ·exact Aa _ Ae
  exact Aa _ (Aa _ (At0.2 (.inl B)))
 exact Aa _ (Aa _ (At0.2 (.inr B)))
theorem Zh.kept{w'}(h:Zh w pb po m S)(k:Bp w w w'):Zh w' pb po m S:=h.frame (X:=λ_=>False) (Ay k) (λ_ _ h=>h)
end
def Y0{S:MS}{i G b}(h:b∈(S.put i G).all):b∈G\/b∈S.all:=by
 grind[MS.all,MS.put,Jc,Zv]
theorem Qhr{p}{S:MS}{i:Int}{G}(h:(p::S.all).Nodup)(T:G.Nodup)(L:∀b∈G,b∈S.Fs.getD i.toNat []\/b∉p::S.all)(U:i.toNat<S.Fs):(p::(S.put i G).all).Nodup:=by
 have E:=Ar.1 h;have M:S.cb∉S.Fs.flatten++S.Fx/\(S.Fs.flatten++S.Fx).Nodup:=Ar.1 E.2;have F:=Qxw M.2;have V:=Dw.1 F.1;have W:∀j,j<S.Fs.length->j≠i.toNat->∀c∈S.Fs.getD j [],c∉S.Fs.getD i.toNat []:=by intro j C O c H X;have L:=Du.1 V.2;grind
 have P:∀b∈G,b≠p/\b≠S.cb/\b∉S.Fx/\∀j,j<S.Fs.length->j≠i.toNat->b∉S.Fs.getD j []:=by
  intro b J;rcases L b J with h|h
  ·have B:=Zv U h
   refine⟨λe=>E.1 (e▸Aa _ (At0.2 (.inl B))),λe=>M.1 (e▸At0.2 (.inl B)),λK=>F.2.2 b B K,λj C O H=>W j C O b H h⟩
  refine⟨λe=>h (e▸Ae),λe=>h (e▸Aa _ Ae),λK=>h (Aa _ (Aa _ (At0.2 (.inr K)))),λj C _ H=>h (Aa _ (Aa _ (At0.2 (.inl (Zv C H)))))⟩
 unfold MS.all MS.put;rw[Ar,Ar,Ba];refine⟨λB=> ?_,λB=> ?_,Q2p F.1 T λb J=>(P b J).2.2.2,F.2.1,λa Y b J e=> ?_⟩
 ·rw[Aq,At0]at B
  rcases B with B|B|B
  ·exact E.1 (B▸Ae)
  ·rcases Jc B with B|⟨j,C,_,B⟩
   ·exact(P _ B).1 rfl
   exact E.1 (Aa _ (At0.2 (.inl (Zv C B))))
  exact E.1 (Aa _ (At0.2 (.inr B)))
 ·grind[Jc,Zv]
 grind[Jc,Zv]
def Zh.turn{w w2 pb po m S}(h:Zh w pb po m S){i:Int}(hi:i.toNat<(mC m)){us'}{y:Qb}{G f}(d:Q1 (λc=>c=pb\/c=S.cb\/c∈S.Fs.getD i.toNat []) w w2)(z:Qc S.cb (S.o+i.toNat * 5) 5 w w2)(hr:Qy2 w2 S.cb (S.o+i.toNat * 5) us')(g:Ow Q4 w2 us' y G)(l:G.Nodup)(n:∀b∈G,b∈S.Fs.getD i.toNat []\/b∉pb::S.all)(M:Qc pb (po+1) 1 w w2)(A0:w2.cell? (pb,po+1)=R (I Z f))(A1:Qyn f):
  Zh w2 pb po ((mC m).set i.toNat y,f,mR m,mX m) (S.put i G):=by
 have A2:=h.nodup;have AC:=h.lt;obtain⟨px,cx,O,h2,h3,h4,h5,P,p,q⟩:=h;have r:=P.len;have H:=Ar.1 A2;have U:S.cb∉S.Fs.flatten++S.Fx/\(S.Fs.flatten++S.Fx).Nodup:=Ar.1 H.2;have s:=Qxw U.2;have AD:pb≠S.cb:=λe=>H.1 (e▸Ae);have AE:∀us:List Bk,us.length=5->Qy2 w pb po us->us[1]?=R (I Z (mF m))->True:=λ_ _ _ _=>trivial;refine⟨px,cx,O.keep M, ?_,A1,h4,h5, ?_, ?_,Qhr q l n (by omega)⟩
 ·obtain⟨a1,a2⟩:=Qy2.app (v1:=[_]) h2
  obtain⟨b1,b2⟩:=Qy2.app (v1:=[_]) a2;have c0:=a1.keep O M (by simp);have c2:=b2.keep O M (by simp);simp only[mC,mF,mR,mX,Bl,MS.put]at *
  refine Qy2.join (v1:=[_]) c0 (Qy2.join (v1:=[_]) ?_ c2);intro j C;obtain rfl:j=0:=by simpa using C
  exact A0
 ·
  have A3:Ji w S.cb S.o S.cap (mC m) S.Fs:=P;have A4:∀b,b<w.heap.size->b≠pb->b≠S.cb->b∉S.Fs.getD i.toNat []->w2.heap[b]?=w.heap[b]?:=λb E V W X=>d.block b E (by rintro(e|e|e);exact V e;exact W e;exact X e);obtain⟨cur,T,g1,g2,g3,g4,g5,g6,g7⟩:=P;obtain⟨Y,t,A5,A6⟩:=z cur T g1;have A7:∀j,j<(mC m).length->j≠i.toNat->∀c∈S.Fs.getD j [],c≠pb/\c≠S.cb/\c∉S.Fs.getD i.toNat []:=by
   intro j C A8 c F;have J:=Zv (by omega) F;refine⟨λe=>H.1 (e▸Aa _ (At0.2 (.inl J))),λe=>U.1 (e▸At0.2 (.inl J)),λu=> ?_⟩;have A9:=Dw.1 s.1;have v:=Du.1 A9.2;have q1:i.toNat<S.Fs:=by omega
   have K:j<S.Fs.length:=by omega
   rcases Et A8 with h|h
   ·exact v j _ K q1 h c (by rwa [Ab,Ad K]at F) c (by rwa [Ab,Ad q1]at u) rfl
   exact v _ j q1 K h c (by rwa [Ab,Ad q1]at u) c (by rwa [Ab,Ad K]at F) rfl
  have AA:=Qhr q l n (by omega:i.toNat<S.Fs);have AB:=Ar.1 AA;have x:S.cb∉(S.put i G).Fs.flatten++S.Fx/\((S.put i G).Fs.flatten++S.Fx).Nodup:=Ar.1 AB.2;refine⟨Y,T,t,by simp only[mC,Bl];exact g2,g3,by rw[A5];exact g4,by simp only[MS.put,mC,Bl];exact g5,Ar.2 ⟨λJ=>x.1 (At0.2 (.inl J)),(Qxw x.2).1⟩,λj C=> ?_⟩;simp only[mC,Bl]at C;simp only[MS.put,mC];rw[Qbb (by simp only[mC]at r;omega)];have AF:us'.length=5:=g.length;by_cases L:i.toNat=j
  ·subst L
   rw[if_pos rfl];have a:Q17 Y (S.o+i.toNat * 5) 5=us':=by
    apply Eb;intro k;unfold Q17;rw[Cm];by_cases B:k<5
    ·rw[if_pos B,Cu,Array.getElem?_toList]
     have:=hr k (by omega);simp only[Er,t]at this;simp only[Option.isSome_none,Dc,if_false]at this;rw[this,Ad (by omega)]
    rw[if_neg B,Fi (by omega)]
   rw[a];simpa using g
  rw[if_neg L,Dk L];have a:Q17 Y (S.o+j * 5) 5=Q17 cur (S.o+j * 5) 5:=by
   apply Eb;intro k;unfold Q17;rw[Cm,Cm];by_cases B:k<5
   ·rw[if_pos B,if_pos B,Cu,Cu,Array.getElem?_toList,Array.getElem?_toList]
    exact A6 _ (by omega)
   rw[if_neg B,if_neg B]
  rw[a];refine(g7 j C).kept λc F=> ?_;obtain⟨V,W,X⟩:=A7 j C (λe=>L e.symm) c F;exact A4 c (A3.lt c (Aa _ (Zv (by simp only[mC]at r;omega) F))) V W X
 refine p.frame d λb E=>⟨p.lt b E, ?_⟩;rintro(e|e|e)
 ·exact H.1 (e▸Aa _ (At0.2 (.inr E)))
 ·exact U.1 (e▸At0.2 (.inr E))
 exact s.2.2 b (Zv (by omega) e) E
def Qc.of_frame{w w' b X}(k:Q1 X w w')(hX:¬X b)(B n):Qc b B n w w':=(Qc.refl b B n w).fr k hX
def Zh.turnC{w w2 pb po m S}(h:Zh w pb po m S){i:Int}(E:i.toNat<(mC m)){us'}{y:Qb}{G}(B:Q1 (λc=>c=S.cb\/c∈S.Fs.getD i.toNat []) w w2)(F:Qc S.cb (S.o+i.toNat * 5) 5 w w2)(H:Qy2 w2 S.cb (S.o+i.toNat * 5) us')(J:Ow Q4 w2 us' y G)(K:G.Nodup)(L:∀b∈G,b∈S.Fs.getD i.toNat []\/b∉pb::S.all):Zh w2 pb po (Qg1 m i y) (S.put i G):=by
 have C:=Ar.1 h.nodup;have M:=h.blk;have U:=h.cells.len;have hX:¬(pb=S.cb\/pb∈S.Fs.getD i.toNat []):=by
  rintro(e|e)
  ·exact C.1 (e▸Ae)
  exact C.1 (Aa _ (At0.2 (.inl (Zv (by omega) e))))
 obtain⟨px,cx,V,O,P,_⟩:=id h;refine h.turn E (B.mono λc T=> .inr T) F H J K L (Qc.of_frame B hX _ _) ?_ P;rw[B.cell M.lt hX];exact O 1 (by simp)
def Zh.turnX{w w2 pb po m S}(h:Zh w pb po m S){xs:List Wd}{px cx Fx}(L:Q1 (λc=>c=pb\/c∈S.Fx) w w2)(F:Qc pb (po+4) 1 w w2)(M:w2.cell? (pb,po+4)=R (A px xs cx))(O:Ow (.slice Q5) w2 [A px xs cx] xs Fx)(P:Fx.Nodup)(T:∀b∈Fx,b∈S.Fx\/b∉pb::S.all):Zh w2 pb po (mC m,mF m,mR m,xs) {S with Fx:=Fx}:=by
 obtain⟨l,n,G,U,V,W,X,Y,o,d⟩:=h;have E:=Ar.1 d;have H:S.cb∉S.Fs.flatten++S.Fx/\(S.Fs.flatten++S.Fx).Nodup:=Ar.1 E.2;have J:=Qxw H.2;have K:∀b∈Fx,b≠pb/\b≠S.cb/\b∉S.Fs.flatten:=by
  intro b C;rcases T b C with h|h
  ·exact⟨λe=>E.1 (e▸Aa _ (At0.2 (.inr h))),λe=>H.1 (e▸At0.2 (.inr h)),λB=>J.2.2 b B h⟩
  exact⟨λe=>h (e▸Ae),λe=>h (e▸Aa _ Ae),λB=>h (Aa _ (Aa _ (At0.2 (.inl B))))⟩
 refine⟨px,cx,G.keep F, ?_,V,W,X,Y.frame L λb C=> ?_,O, ?_⟩
 ·obtain⟨f,p⟩:=Qy2.app (v1:=[_,_,_,_]) U
  have g:=f.keep G F (by simp);refine Qy2.join (v1:=[_,_,_,_]) g ?_;intro j i;obtain rfl:j=0:=by simpa using i
  exact M
 ·rintro(e|e)
  ·subst e
   rcases Aq.1 C with C|C
   ·exact E.1 (C▸Ae)
   exact E.1 (Aa _ (At0.2 (.inl C)))
  grind
 show(pb::S.cb::(S.Fs.flatten++Fx)).Nodup;rw[Ar,Ar,Ba];refine⟨λB=> ?_,λB=> ?_,J.1,P,λa k b C e=>(K b C).2.2 (e▸k)⟩
 ·rw[Aq,At0]at B
  rcases B with B|B|B
  ·exact E.1 (B▸Ae)
  ·exact E.1 (Aa _ (At0.2 (.inl B)))
  exact(K _ B).1 rfl
 grind
def Zh.head{w pb po m S}(h:Zh w pb po m S):
  ∃(px:Option Cp) (cx:Nat),(w,pb,po,A (R (S.cb,S.o)) (mC m) S.cap)/\(w,pb,po+1,(mF m))/\(w,pb,po+2,I Z (mR m).1)/\(w,pb,po+3,I Z (mR m).2)/\
   (w,pb,po+4,A px (mX m) cx)/\Qyn (mF m)/\Qyn (mR m).1/\Qyn (mR m).2/\Ow (.slice Q5) w [A px (mX m) cx] (mX m) S.Fx:=by
 obtain⟨px,cx,C,B,E,F,G,H,J,K⟩:=h;obtain⟨L,M,O,P,T⟩:=Q5v B;grind
theorem Zh.cell{w pb po m S}(h:Zh w pb po m S){i:Int}(B:i.toNat<(mC m)):
  ∃us,us.length=5/\Qy2 w S.cb (S.o+i.toNat * 5) us/\Ow Q4 w us (Q7 (mC m) i) (S.Fs.getD i.toNat []):=by
 have:=h.cells.cell i.toNat B;grind[Q7,Qy]
def Q21(w:Bh)(cb o cap:Nat)(cs:List Qxb)(Fs:List (List Nat)):Prop:=
 ∃cur T,(w,oC cb cur T)/\cs<=cap/\cap<=Bu/\o+cap * 5<=cur.size/\Fs.length=cs/\(cb::Fs.flatten).Nodup/\
  ∀(i:Nat) (h:i<cs),Ow Qh w (Q17 cur (o+i * 5) 5) cs[i] (Fs.getD i [])
section
variable {w:Bh} {cb o cap:Nat} {cs:List Qxb} {Fs:List (List Nat)}
theorem Q21.ow(h:Q21 w cb o cap cs Fs):Ow (.slice Qh) w [A (R (cb,o)) cs cap] cs (cb::Fs.flatten):=by
 obtain⟨cur,T,B,C,E,F,G,J,H⟩:=h;exact⟨_,rfl,.inr ⟨cb,o,cap,cur,T,Fs,rfl,C,E,B,F,rfl,G,H⟩⟩
theorem Q21.rd(h:Q21 w cb o cap cs Fs):Rd (.slice Qh) w [A (R (cb,o)) cs cap] cs:=h.ow.rd
def Q21.of_ow{v F}(h:Ow (.slice Qh) w [v] cs F)(C:F.Nodup)(E:cs≠ []):∃cb o cap Fs,v=A (R ⟨cb,o,N⟩) cs cap/\F=cb::Fs.flatten/\Q21 w cb o cap cs Fs:=by
 obtain⟨G,H,h⟩:=h;obtain rfl:v=G:=by simpa using H
 rcases h with⟨J,_⟩|⟨b,o,cap,cur,T,Fs,K,L,M,O,P,B,S,U⟩
 ·exact absurd J E
 exact⟨b,o,cap,Fs,K,B,cur,T,O,L,M,P,S,B▸C,U⟩
def Q21.blk(h:Q21 w cb o cap cs Fs):Qy5 w cb:=let ⟨cur,T,h1,_⟩:=h;⟨cur,T,h1⟩
theorem Q21.nodup(h:Q21 w cb o cap cs Fs):(cb::Fs.flatten).Nodup:=let ⟨_,_,_,_,_,_,_,h6,_⟩:=h;h6
theorem Q21.len(h:Q21 w cb o cap cs Fs):Fs.length=cs:=let ⟨_,_,_,_,_,_,h5,_⟩:=h;h5
theorem Q21.lt(h:Q21 w cb o cap cs Fs):∀b∈cb::Fs.flatten,b<w.heap.size:=h.ow.lt
theorem Q21.bound(h:Q21 w cb o cap cs Fs):cs<=cap/\cap<=Bu:=let ⟨_,_,_,h1,h2,_⟩:=h;⟨h1,h2⟩
theorem Q21.cell(h:Q21 w cb o cap cs Fs)(i:Nat)(B):∃us,us.length=5/\Qy2 w cb (o+i * 5) us/\Ow Qh w us cs[i] (Fs.getD i []):=by
 obtain⟨cur,T,C,E,F,G,H,J,K⟩:=h;have L:o+i * 5+5<=cur.size:=by omega
 grind[Q17,Q4b]
theorem Q21.frame{w' X}(h:Q21 w cb o cap cs Fs)(k:Q1 X w w')(hX:∀b∈cb::Fs.flatten,¬X b):Q21 w' cb o cap cs Fs:=by
 have C:=h.lt;obtain⟨cur,T,E,F,G,H,J,K,L⟩:=h;have B:∀b∈cb::Fs.flatten,w'.heap[b]?=w.heap[b]?:=λb B=>k.block b (C b B) (hX b B);exact⟨cur,T,by rw[B cb Ae];exact E,F,G,H,J,K,λi M=>(L i M).kept λb O=>B b (Aa _ (Zv (by omega) O))⟩
end
def Q21.turn{w w2 cb o cap cs Fs}(h:Q21 w cb o cap cs Fs){i:Nat}(m:i<cs){us'}{y:Qxb}{G:List Nat}(L:Q1 (λc=>c=cb\/c∈Fs.getD i []) w w2)(M:Qc cb (o+i * 5) 5 w w2)(O:Qy2 w2 cb (o+i * 5) us')(J:Ow Qh w2 us' y G)(n:G.Nodup)(p:∀b∈G,b∈Fs.getD i []\/b∉cb::Fs.flatten):Q21 w2 cb o cap (cs.set i y) (Fs.set i G):=by
 have P:=h.lt;obtain⟨cur,T,S,U,V,W,X,Y,a⟩:=h;have d:=Ar.1 Y;obtain⟨C,K,e,q⟩:=M cur T S;have f:=J.length;have r:us'.length=5:=f;have s:o+i * 5+5<=cur.size:=by omega
 have t:=Dw.1 d.2;have u:∀j,j<cs.length->j≠i->∀c∈Fs.getD j [],c∉Fs.getD i []:=by grind[Du]
 have g:∀j,j<cs.length->∀c∈Fs.getD j [],c∈Fs.flatten:=λj B c E=>Zv (by omega) E;refine⟨C,T,K,by rw[Bl];exact U,V,by rw[e];exact W,by rw[Bl,Bl];exact X, ?_,λj B=> ?_⟩
 ·grind[Q2p,Jc]
 rw[Bl]at B;rw[Qbb (by omega)];by_cases F:i=j
 ·subst F
  have H:Q17 C (o+i * 5) 5=us':=by
   apply Eb;intro k;unfold Q17;rw[Cm];by_cases l:k<5
   ·rw[if_pos l,Cu,Array.getElem?_toList]
    have:=O k (by omega);simp only[Er,K]at this;grind
   grind
  rw[H];simpa using J
 rw[if_neg F,Dk F];have H:Q17 C (o+j * 5) 5=Q17 cur (o+j * 5) 5:=by apply Eb;intro k;unfold Q17;grind
 rw[H];refine(a j B).kept λc E=>L.block c (P c (Aa _ (g j B c E))) ?_;grind
theorem Q9e{cur o m n}(h:o+(m+n)<=cur.size):Q17 cur o (m+n)=Q17 cur o m++Q17 cur (o+m) n:=by
 apply Eb;intro j;unfold Q17;grind
def Qlo{cur o m n v1 B}(h:o+(m+n)<=cur.size)(e:Q17 cur o (m+n)=v1++B)(C:v1=m):Q17 cur o m=v1/\Q17 cur (o+m) n=B:=by
 grind[Q9e,List.append_inj,Q0j]
theorem Qc0{cur B o n}(h:∀j,o<=j->j<o+n->B[j]?=cur[j]?):Q17 B o n=Q17 cur o n:=by
 apply Eb;intro j;unfold Q17;grind
def Qhx{B:List (List Nat)}{i b G}(h:b∈(B.set i G).flatten):b∈G\/∃j,j<B.length/\j≠i/\b∈B.getD j []:=by
 obtain⟨L,E,F⟩:=Hg.1 h;obtain⟨j,C,rfl⟩:=Av.1 E;rw[Bl]at C;by_cases e:i=j
 ·subst e
  left;simpa using F
 right;refine⟨j,C,λh=>e h.symm, ?_⟩;grind
theorem Qd8{B:List (List Nat)}{i G}(h:B.flatten.Nodup)(C:G.Nodup)(E:∀b∈G,∀j,j<B.length->j≠i->b∉B.getD j []):(B.set i G).flatten.Nodup:=by
 unfold List.Nodup at h⊢;rw[Dw]at h⊢;constructor
 ·grind
 rw[Du]at h⊢;grind
def Q9i{B:List (List Nat)}(h:B.flatten.Nodup){i j:Nat}(C:i<B)(E:j<B)(F:i≠j){c}(G:c∈B.getD i [])(H:c∈B.getD j []):False:=by
 have J:=Du.1 (Dw.1 h).2;grind
def Q1b(B b o:Nat)(t:Ty)(w:Bh)(x:t.den)(G:List Nat):Prop:=
 ∃cur T,(w,oC b cur T)/\o+t.sz<=cur.size/\Ow t w (Q17 cur o t.sz) x G/\(b::G).Nodup/\∀c∈b::G,B<=c
structure Qxv (b o n:Nat) (G:List Nat) (w w':Bh):Prop where
 fr:Q1 (λc=>c=b\/c∈G) w w'
 row:Qc b o n w w'
theorem Qxv.wide{b o n p m G H w w'}(h:Qxv b o n G w w')(E:p<=o)(F:o+n<=p+m)(B:∀c∈G,c∈H):Qxv b p m H w w':=
 ⟨h.fr.mono λc=>Or.imp id (B c),λcur T C=>let ⟨cur',h1,h2,h3⟩:=h.row cur T C;⟨cur',h1,h2,λj J=>h3 j (by omega)⟩⟩
theorem Q1b.lt{B b o t w x G}(h:Q1b B b o t w x G):b<w/\∀c∈G,c<w.heap.size:=by
 obtain⟨cur,T,C,-,E,-⟩:=h;exact⟨(Al.1 C).1,E.lt⟩
structure Qyj (B b o:Nat) (t:Ty) (w:Bh) (G:List Nat) (b' o':Nat) (e:Ty) (y:e.den) (H:List Nat) (put:e.den->t.den):Prop where
 hold:Q1b B b' o' e w y H
 subb:b'∈b::G
 sub:∀c∈H,c∈G
 back:∀(w':Bh) (y':e.den) (H':List Nat) (X:Nat->Prop),(∀c,X c->c∉b::G)->Qxv b' o' e.sz H w w'->Q1b B b' o' e w' y' H'->(∀c∈H',c∈H\/X c)->
  ∃G',Q1b B b o t w' (put y') G'/\(∀c∈G',c∈H'\/(c∈G/\c∉H))/\Qxv b o t.sz G w w'
theorem Qyj.comp{B b o E L M O t e d w y z G H K p q}(h:Qyj B b o t w G E L e y H p)(k:Qyj B E L e w H M O d z K q):Qyj B b o t w G M O d z K (λz=>p (q z)):=by
 have P:∀c∈E::H,c∈b::G:=λc C=>(Aq.1 C).elim (λe=>e▸h.subb) λC=>Aa _ (h.sub c C);refine⟨k.hold,P _ k.subb,λc C=>h.sub c (k.sub c C),λw' S W X hX C Y T=> ?_⟩;obtain⟨a,f,U,g⟩:=k.back w' S W X (λc i j=>hX c i (P c j)) C Y T;obtain⟨l,m,n,r⟩:=h.back w' (q S) a X hX g f (λc C=>(U c C).elim (λF=>(T c F).imp (λJ=>k.sub c J) _root_.id) (λF=> .inl F.1));refine⟨l,m,λc C=> ?_,r⟩;rcases n c C with h1|⟨h1,h2⟩
 ·exact(U c h1).imp _root_.id λV=>⟨h.sub c V.1,V.2⟩
 exact .inr ⟨h1,λJ=>h2 (k.sub c J)⟩
def Qyj.fst{B b o a c w x G}(h:Q1b B b o (.pair a c) w x G):∃H,Qyj B b o (.pair a c) w G b o a x.1 H (λy=>(y,x.2)):=by
 obtain⟨cur,T,M,O,⟨v1,r,S,F,e,rfl,J,K⟩,U,V⟩:=h;simp only[Ty.sz]at O e;obtain⟨W,Y⟩:=Qlo O e J.length;rw[<-W]at J;rw[<-Y]at K;obtain⟨f,g⟩:=Ar.1 U;obtain⟨i,s,k⟩:=Qxw g;obtain⟨l,m⟩:=Qyr f;refine⟨S,⟨cur,T,M,by omega,J,Ar.2 ⟨l,i⟩,λc C=>V c (by rcases Aq.1 C with h|h<;>simp[h])⟩,Ae,λc C=>by simp[C], ?_⟩;intro w' t P X hX C ⟨cur',T',hb',hsz',ho',hn',hy'⟩ hs;obtain⟨n,L,u,p⟩:=C.row cur T M;obtain⟨rfl,rfl⟩:cur'=n/\T'=T:=by rw[hb']at L;simp at L;exact L
 have q:Ow c w' (Q17 cur' (o+a.sz) c.sz) x.2 F:=by rw[Qc0 (cur:=cur) λj v _=>p j (by omega)];exact K.kept λd E=>C.fr.block d (K.lt d E) (by rintro(e|e);exact m (e▸E);exact k d e E)
 obtain⟨z,A0⟩:=Ar.1 hn';refine⟨P++F,⟨cur',_,hb',by simp only[Ty.sz];omega,⟨_,_,P,F,by simp only[Ty.sz];exact Q9e (by omega),rfl,ho',q⟩, ?_, ?_⟩, ?_, ?_⟩
 ·grind
 ·grind
 ·grind
 ·exact C.wide (Aj _) (by simp only[Ty.sz];omega) λd E=>Ag _ E
def Qyj.snd{B b o a c w x G}(h:Q1b B b o (.pair a c) w x G):∃H,Qyj B b o (.pair a c) w G b (o+a.sz) c x.2 H (λy=>(x.1,y)):=by
 obtain⟨cur,T,L,M,⟨v1,r,J,S,e,rfl,F,O⟩,U,V⟩:=h;simp only[Ty.sz]at M e;obtain⟨W,Y⟩:=Qlo M e F.length;rw[<-W]at F;rw[<-Y]at O;obtain⟨f,g⟩:=Ar.1 U;obtain⟨s,i,k⟩:=Qxw g;obtain⟨l,m⟩:=Qyr f;refine⟨S,⟨cur,T,L,by omega,O,Ar.2 ⟨m,i⟩,λc C=>V c (by rcases Aq.1 C with h|h<;>simp[h])⟩,Ae,λc C=>by simp[C], ?_⟩;intro w' t P X hX C ⟨cur',T',hb',hsz',ho',hn',hy'⟩ hs;obtain⟨n,K,u,p⟩:=C.row cur T L;obtain⟨rfl,rfl⟩:cur'=n/\T'=T:=by rw[hb']at K;simp at K;exact K
 have q:Ow a w' (Q17 cur' o a.sz) x.1 J:=by rw[Qc0 (cur:=cur) λj _ v=>p j (by omega)];exact F.kept λd E=>C.fr.block d (F.lt d E) (by rintro(e|e);exact l (e▸E);exact k d E e)
 obtain⟨z,A0⟩:=Ar.1 hn';refine⟨J++P,⟨cur',_,hb',by simp only[Ty.sz];omega,⟨_,_,J,P,by simp only[Ty.sz];exact Q9e (by omega),rfl,q,ho'⟩, ?_, ?_⟩, ?_, ?_⟩
 ·grind
 ·grind
 ·grind
 ·exact C.wide (by omega) (by simp only[Ty.sz];omega) λd E=>Af _ E
def Qyj.elem{B b o e w}{xs:List e.den}{G}(h:Q1b B b o (.slice e) w xs G)(i:Nat)(K):
  ∃J P W H,(w,b,o,A (R ⟨J,P,N⟩) xs W)/\Qyj B b o (.slice e) w G J (P+i * e.sz) e xs[i] H (λy=>xs.set i y):=by
 obtain⟨cur,T,p,r,⟨v,s,d⟩,x,f⟩:=h;rcases d with⟨hx,_⟩|⟨J,P,W,g,t,F,z,hl,hm,A0,AE,rfl,A3,k⟩
 ·rw[hx]at K;simp at K
 have l:=(Ar.1 x).1;obtain⟨m,Y⟩:=Ar.1 (Ar.1 x).2;have S:∀j,j<xs.length->∀c∈F.getD j [],c∈F.flatten:=λj E c C=>Zv (by omega) C;have A4:P+i * e.sz+e.sz<=g.size:=by
  have h1:i * e.sz+e.sz<=W * e.sz:=by rw[<-Dv];exact Bd _ (by omega)
  omega
 have A5:w.cell? (b,o)=R (A (R ⟨J,P,N⟩) xs W):=by have:=(Q4b p o 1 (by simp only[Ty.sz]at r;omega)) 0 (by rw[Q0j (by simp only[Ty.sz]at r;omega)];omega);simp only[Ty.sz]at s;simp only[s,z]at this;simpa using this
 have A1:b≠J:=λe=>l (by rw[e];exact Ae);refine⟨J,P,W,F.getD i [],A5,⟨g,t,A0,A4,k i K,Ar.2 ⟨λh=>m (S i K _ h),(Dw.1 Y).1 _ (Qf8 (by omega))⟩,λc C=>f c ?_⟩,by simp,λc C=>Aa _ (S i K c C), ?_⟩
 ·rcases Aq.1 C with h|h
  ·simp[h]
  exact Aa _ (Aa _ (S i K c h))
 intro w' y' V X hX C ⟨cur',T',hb',hsz',ho',hn',hy'⟩ d;obtain⟨A6,u,AF,A7⟩:=C.row g t A0;obtain⟨rfl,rfl⟩:cur'=A6/\T'=t:=by rw[hb']at u;simp at u;exact u
 have A8:b<w:=(Al.1 p).1;have A2:w'.heap[b]?=w.heap[b]?:=C.fr.block b A8 (by
  rintro(e|e)
  ·exact A1 e
  exact l (Aa _ (S i K b e)))
 obtain⟨A9,AA⟩:=Ar.1 hn';have AG:∀c∈F.flatten,c<w.heap.size:=λc C=>by obtain⟨L,hL,AB⟩:=Hg.1 C;obtain⟨j,E,rfl⟩:=Av.1 hL;exact(k j (by omega)).lt c (by rw[Ab,Ad E];exact AB)
 have n:∀c∈(F.set i V).flatten,c∈V\/(c∈F.flatten/\c≠J/\c∉F.getD i []):=λc C=>by
  rcases Qhx C with h|⟨j,E,M,h⟩
  ·exact .inl h
  exact .inr ⟨Zv E h,λe=>m (e▸Zv E h),λU=>Q9i Y (by omega) E (Ne.symm M) U h⟩
 refine⟨J::(F.set i V).flatten,⟨cur,T,by rw[A2];exact p,r,⟨v,s,.inr ⟨J,P,W,cur',_,F.set i V,by rw[Bl];exact z,by rw[Bl];exact hl,hm,hb',by omega,rfl,by rw[Bl,Bl];exact A3,λj E=> ?_⟩⟩, ?_, ?_⟩, ?_, ?_⟩
 ·rw[Bl]at E
  show Ow e w' (Q17 cur' (P+j * e.sz) e.sz) (xs.set i y')[j] _;by_cases M:i=j
  ·subst M
   have:(F.set i V).getD i []=V:=by rw[Ab,List.getElem?_set_self (by omega)];rfl
   rw[this];simpa using ho'
  have hg:(F.set i V).getD j []=F.getD j []:=by rw[Ab,Ab,List.getElem?_set_ne M]
  rw[hg,Qc0 (cur:=g) (λq h1 U=>A7 q (by
   rcases Et M with h|h
   ·have:i * e.sz+e.sz<=j * e.sz:=by rw[<-Dv];exact Bd _ h
    omega
   have:j * e.sz+e.sz<=i * e.sz:=by rw[<-Dv];exact Bd _ h
   omega)),Dk M]
  refine(k j E).kept λc O=>C.fr.block c ((k j E).lt c O) ?_;rintro(e|e)
  ·exact m (e▸S j E c O)
  exact Q9i Y (by omega) (by omega) M e O
 ·refine Ar.2 ⟨λa=> ?_,Ar.2 ⟨λa=> ?_,Qd8 Y AA λc O j E M h=> ?_⟩⟩
  ·rcases Aq.1 a with h|h
   ·exact A1 h
   rcases n b h with h|⟨h,-⟩
   ·rcases d b h with h|h
    ·exact l (Aa _ (S i K b h))
    exact hX b h Ae
   exact l (Aa _ h)
  ·rcases n J a with h|⟨-,h,-⟩
   ·exact A9 h
   exact h rfl
  rcases d c O with U|U
  ·exact Q9i Y (by omega) E (Ne.symm M) U h
  exact hX c U (Aa _ (Aa _ (Zv E h)))
 ·intro c O
  rcases Aq.1 O with h|h
  ·exact f c (by simp[h])
  rcases Aq.1 h with h|h
  ·exact f c (by simp[h])
  rcases n c h with h|⟨h,-⟩
  ·exact hy' c (Aa _ h)
  exact f c (Aa _ (Aa _ h))
 ·intro c O
  rcases Aq.1 O with h|h
  ·exact .inr ⟨by simp[h],λa=>m (h▸S i K c a)⟩
  rcases n c h with h|⟨h,-,U⟩
  ·exact .inl h
  exact .inr ⟨Aa _ h,U⟩
 have AC:Q1 (λc=>c=b\/c∈J::F.flatten) w w':=C.fr.mono λc C=>C.elim (λe=> .inr (by simp[e])) λh=> .inr (Aa _ (S i K c h));exact⟨AC,λAD T3 h3=>⟨AD,by rw[A2];exact h3,rfl,λ_ _=>rfl⟩⟩
theorem Q1b.free{B b o t w x G}(h:Q1b B b o t w x G)(q:Nat):w.frozen? (b,q)=Bm:=by
 obtain⟨cur,T,C,-⟩:=h;simp[World.frozen?,C]
theorem Q1b.row{B b o t w x G}(h:Q1b B b o t w x G):∃us,us.length=t.sz/\Qy2 w b o us/\Ow t w us x G:=by
 obtain⟨cur,T,C,E,F,-⟩:=h;grind[Q0j,Q4b]
theorem Q1b.young{B b o t w x G}(h:Q1b B b o t w x G):B<=b/\(∀c∈G,B<=c)/\b∉G/\G.Nodup:=by
 obtain⟨_,_,_,_,_,C,E⟩:=h;simp_all
theorem Q1b.int{B b o w n G}(h:Q1b B b o .int w n G):(w,b,o,n)/\Qyn n/\G=[]:=by
 obtain⟨us,-,C,⟨rfl,E,F⟩⟩:=h.row;exact⟨Qa6 C,E,F⟩
def Q1b.bool{B b o w n G}(h:Q1b B b o .bool w n G):w.cell? (b,o)=R n/\G=[]:=by
 obtain⟨us,-,C,⟨rfl,E⟩⟩:=h.row;exact⟨Qa6 C,E⟩
def Q1b.slice{B b o e w}{xs:List e.den}{G}(h:Q1b B b o (.slice e) w xs G):
  ∃p C,(w,b,o,A p xs C)/\Ow (.slice e) w [A p xs C] xs G:=by
 grind[Q1b.row,V5,Qa6]
theorem Q1b.kept{B b o t w w' x G X}(h:Q1b B b o t w x G)(k:Q1 X w w')(hX:∀c∈b::G,¬X c):Q1b B b o t w' x G:=by
 obtain⟨E,F⟩:=h.lt;obtain⟨cur,T,H,J,K,L,M⟩:=h;exact⟨cur,T,by rw[k.block b E (hX b Ae)];exact H,J,K.kept λc C=>k.block c (F c C) (hX c (Aa _ C)),L,M⟩
def Q1b.turn{B b o t w w1 x y G H vs}(h:Q1b B b o t w x G)(k:Q1 (λc=>c∈G) w w1)(F:Ow t w1 vs y H)(J:b∉H)(O:H.Nodup)(P:∀c∈H,B<=c):Q1b B b o t (Yu w1 b o vs) y H/\Qxv b o t.sz G w (Yu w1 b o vs):=by
 obtain⟨S,-,U,-⟩:=h.young;obtain⟨V,f⟩:=h.lt;obtain⟨cur,T,K,W,i,l,m⟩:=h;have L:w1.heap[b]?=R (.cells cur T (0,0)):=by rw[k.block b V U];exact K
 have Y:=F.length;have M:=Zx (X:=λc=>c=b) (g:=b) rfl vs o w1;refine⟨⟨Q1u cur o vs,T,Jn vs o w1 cur L,by rw[Q2k];exact W, ?_,Ar.2 ⟨J,O⟩,λc C=>(Aq.1 C).elim (λe=>e▸S) (P c)⟩,⟨?_, ?_⟩⟩
 ·rw[<-Y,Q5m (by omega)]
  exact F.kept λc C=>M.block c (F.lt c C) (λe=>J (e▸C))
 ·exact(k.mono λc C=> .inr C).trans (M.mono λc C=> .inl C)
 intro a d E;obtain⟨rfl,rfl⟩:a=cur/\d=T:=by rw[K]at E;simp at E;exact⟨E.1.symm,E.2.symm⟩
 exact⟨_,Jn vs o w1 _ L,Q2k _ _ _,λj n=>by rw[Q6q vs o _ j (by omega),if_neg (by omega)]⟩
theorem Q1b.put{B b o t w x y G H vs}(h:Q1b B b o t w x G)(C:Ow t w vs y H)(E:b∉H)(F:H.Nodup)(J:∀c∈H,B<=c):Q1b B b o t (Yu w b o vs) y H/\Qxv b o t.sz G w (Yu w b o vs):=h.turn (Q1.refl _ _) C E F J
def Q1b.putI{B b o w x G}(h:Q1b B b o .int w x G){n}(C:Qyn n):Q1b B b o .int (w.setCell (b,o) n) n []/\Qxv b o 1 G w (w.setCell (b,o) n):=
 h.put (vs:=[n]) ⟨rfl,C,rfl⟩ (by simp) (by simp) (by simp)
def Q1b.box{B t w x F vs}(T)(C:Ow t w vs x F)(G:F.Nodup)(H:∀c∈F,B<=c)(J:B<=w):
  Q1b B w 0 t (w.alloc (.cells vs.toArray T (0,0))) x F:=by
 have K:=C.length;refine⟨vs.toArray,T,Bg w _,by rw[List.size_toArray];omega, ?_,Ar.2 ⟨λh=>by have:=C.lt _ h;omega,G⟩,λc E=>(Aq.1 E).elim (λe=>e▸J) (H c)⟩;have:Q17 vs.toArray 0 t.sz=vs:=by unfold Q17;simp[<-K]
 rw[this];exact C.kept λc E=>Az _ _ _ (C.lt c E)
open Go.RowKit Go.Maps Go.WideMaps
def Qet(w:Bh)(b n:Nat)(ks:List (List UInt8)):Prop:=w.ownsMap (H:=Unit) prog 9 (plainElem prog 4) b n (setOf (.lit (.bool Bn)) (ks.map .string))
def Qdu:Keyed prog 9:=string_keyed underlying9
theorem Qgk(k:List UInt8)(u z:DataW Unit):∀(B:List (List UInt8)) (m:DataW Unit),Tidy m->((B.map Lit.string).foldl (λm x=>m.put x u) m).atKey (.string k) z=if k∈B then u else m.atKey (.string k) z
 | [],_,_=>by simp
 |x::B,m,hm=>by
  rw[Ga,Cb,Qgk k u z B _ (hm.put (k:=.string x) trivial u)];by_cases h:k∈B
  ·rw[if_pos h,if_pos (Aa _ h)]
  rw[if_neg h];by_cases e:k=x
  ·subst e
   rw[atKey_put_same hm.isMap (k:=.string k) trivial,if_pos Ae]
  rw[atKey_put_other (by simpa using e),if_neg (by simp[e,h])]
theorem Qu6(k)(B:List (List UInt8)):(setOf (H:=Unit) (.lit (.bool Bn)) (B.map .string)).atKey (.string k) (.lit (.bool Bm))=.lit (.bool (decide (k∈B))):=by
 unfold setOf;rw[Qgk k _ _ B _ tidy_empty];by_cases h:k∈B<;>simp[h]<;>rfl
def Qh4{k:List UInt8}(h:k<=Bu):keyOf prog 9 (.string ⟨k.toArray⟩)=R (.string k):=keyOf_string_mk (s:=⟨k.toArray⟩) underlying9 (show k.toArray.size<=Bu by simpa using h)
theorem Qet.start(w:Bh):Qet (w.alloc (.map #[] 0)) w 0 []:=World.ownsMap_made _ _ _ _
theorem Qet.get{w b n C}(h:Qet w b n C){k}(F:k.length<=Bu):(Instr.lookup 199 (.map (R b)) (.string ⟨k.toArray⟩) Bm).run prog w=.ok (.bool (decide (k∈C))) w:=by
 obtain⟨v,H,E,B⟩:=World.ownsMap.lookup h Qdu underlying199 (z:=.bool Bm) (by kernel_rfl) (plainElem_bool underlying4 Bm) (Qh4 F);rw[Qu6]at B;rw[E];have G:prog.underlying 4=R .bool:=underlying4;unfold plainElem at B;rw[G]at B;clear E;cases v<;>simp only[Option.some.injEq,Prod.mk.injEq,DataW.lit.injEq,Lit.bool.injEq,and_true,reduceCtorEq]at B
 rw[B.1]
theorem Qet.put{w b n C}(h:Qet w b n C)(E:n<Bu){k:List UInt8}(F:k<=Bu):∃w',(Instr.mapUpdate 199 (.map (R b)) (.string ⟨k.toArray⟩) (.bool Bn)).run prog w=.ok () w'/\Qet w' b (n+1) (C++ [k])/\Q1 (λc=>c=b) w w':=by
 obtain⟨w',G,H,B⟩:=World.ownsMap.update h Qdu underlying199 E (Qh4 F) (plainElem_bool underlying4 Bn);refine⟨w',G, ?_,⟨B.os,B.tape,B.output,B.size,λi J K=>B.block i J (λe=>K (Option.some.inj e))⟩⟩;unfold Qet;rw[Ep,List.map_singleton,setOf_snoc];exact H
theorem Qet.frame{w w' b n B X}(h:Qet w b n B)(k:Q1 X w w')(hX:¬X b):Qet w' b n B:=by
 obtain⟨E,F,C,r⟩:=h;exact⟨E,F,(k.block b (Al.1 C).1 hX).trans C,r⟩
theorem Qet.lt{w b n B}(h:Qet w b n B):b<w:=by
 obtain⟨E,F,C,-⟩:=h;exact(Al.1 C).1
def Q7u{w B rest o a Q}(E:o.guard=N){m x}(F:o.op=Op.lookup 199 m x Bm){b n C}(k:List UInt8)(G:a.eval m=.map (R b))(H:a.eval x=.string ⟨k.toArray⟩)(h:Qet w b n C)(J:k<=Bu){v}(K:decide (k∈C)=v)(L:wpList prog B Q rest (a.put o.dst v) w):wpList prog B Q (o::rest) a w:=by
 refine wpList_plain E λO M=> ?_;unfold Oper.wp;subst K;simp[execOp,F,G,H,h.get J,Result.andThen];exact M _ _ L
theorem Q78{w C rest o a Q}(F:o.guard=N){m x}(B:o.op=Op.mapUpdate 199 m x (.const (.bool Bn))\/o.op=Op.insert 199 m x (.const (.bool Bn))){b n E}(k)(G:a.eval m=.map (R b))(H:a.eval x=.string ⟨k.toArray⟩)(h:Qet w b n E)(J:n<Bu)(K:k.length<=Bu)(L:∀w',Qet w' b (n+1) (E++ [k])->Q1 (λc=>c=b) w w'->wpList prog C Q rest (a.put o.dst undef) w'):wpList prog C Q (o::rest) a w:=by
 refine wpList_plain F λT M=> ?_;obtain⟨w',O,P,S⟩:=h.put J K;unfold Oper.wp;rcases B with B|B<;>
 ·simp only[execOp,B]
  simp[G,H,show a.eval (.const (.bool Bn))=.bool Bn from rfl,O,Result.andThen];exact M _ _ (L w' P S)
open Go.Shelf Go.RowKit
def Qgq:Go.Shelf.Ren:=⟨fun|176=>210|249=>232|288=>246|283=>264|284=>265|285=>266|286=>267|129=>287|317=>286|318=>288|319=>289|320=>290|337=>297|338=>298|n=>n,fun|37=>239|2=>2|3=>3|53=>300|4=>4|9=>9|171=>318|0=>0|173=>321|212=>344|51=>341|5=>5|20=>20|213=>345|46=>347|232=>354|233=>355|n=>n,fun|17=>0|18=>1|19=>2|n=>n⟩
def Qt6:Go.Proofs.LaysM.n176 prog Qgq:= {
 mixed:=by kernel_rfl
 f129:=func287.trans (congrArg R (by kernel_rfl))
 f176:=func210.trans (congrArg R (by kernel_rfl))
 f249:=func232.trans (congrArg R (by kernel_rfl))
 f283:=func264.trans (congrArg R (by kernel_rfl))
 f284:=func265.trans (congrArg R (by kernel_rfl))
 f285:=func266.trans (congrArg R (by kernel_rfl))
 f286:=func267.trans (congrArg R (by kernel_rfl))
 f288:=func246.trans (congrArg R (by kernel_rfl))
 f317:=func286.trans (congrArg R (by kernel_rfl))
 f318:=func288.trans (congrArg R (by kernel_rfl))
 f319:=func289.trans (congrArg R (by kernel_rfl))
 f320:=func290.trans (congrArg R (by kernel_rfl))
 f337:=func297.trans (congrArg R (by kernel_rfl))
 f338:=func298.trans (congrArg R (by kernel_rfl))
 t0:=underlying0
 a0:=Tryz.isAgg0
 z0:=Tryz.sizeOf0
 v0:=Tryz.zeroValue0
 t2:=underlying2
 a2:=Tryz.isAgg2
 z2:=Tryz.sizeOf2
 v2:=Tryz.zeroValue2
 t3:=underlying3
 a3:=Tryz.isAgg3
 z3:=Tryz.sizeOf3
 v3:=Tryz.zeroValue3
 t4:=underlying4
 a4:=Tryz.isAgg4
 z4:=Tryz.sizeOf4
 v4:=Tryz.zeroValue4
 t5:=underlying5
 a5:=Tryz.isAgg5
 z5:=Tryz.sizeOf5
 v5:=Tryz.zeroValue5
 t9:=underlying9
 a9:=Tryz.isAgg9
 z9:=Tryz.sizeOf9
 v9:=Tryz.zeroValue9
 t20:=underlying20
 a20:=Tryz.isAgg20
 z20:=Tryz.sizeOf20
 v20:=Tryz.zeroValue20
 t37:=underlying239
 a37:=Tryz.isAgg239
 z37:=Tryz.sizeOf239
 v37:=Tryz.zeroValue239
 t46:=underlying347
 a46:=Tryz.isAgg347
 z46:=Tryz.sizeOf347
 v46:=Tryz.zeroValue347
 t51:=underlying341
 a51:=Tryz.isAgg341
 z51:=Tryz.sizeOf341
 v51:=Tryz.zeroValue341
 t53:=underlying300
 a53:=Tryz.isAgg300
 z53:=Tryz.sizeOf300
 v53:=Tryz.zeroValue300
 t171:=underlying318
 a171:=Tryz.isAgg318
 z171:=Tryz.sizeOf318
 v171:=Tryz.zeroValue318
 t173:=underlying321
 a173:=Tryz.isAgg321
 z173:=Tryz.sizeOf321
 v173:=Tryz.zeroValue321
 t212:=underlying344
 a212:=Tryz.isAgg344
 z212:=Tryz.sizeOf344
 v212:=Tryz.zeroValue344
 t213:=underlying345
 a213:=Tryz.isAgg345
 z213:=Tryz.sizeOf345
 t232:=underlying354
 a232:=Tryz.isAgg354
 z232:=Tryz.sizeOf354
 v232:=Tryz.zeroValue354
 t233:=underlying355
 a233:=Tryz.isAgg355
 z233:=Tryz.sizeOf355
 v233:=Tryz.zeroValue355
 g17:=by kernel_rfl
 g18:=by kernel_rfl
 g19:=by kernel_rfl
 i0:=by kernel_rfl
 i2:=by kernel_rfl
 i3:=by kernel_rfl
 i4:=by kernel_rfl
 i5:=by kernel_rfl
 i9:=by kernel_rfl
 i20:=by kernel_rfl
 i37:=by kernel_rfl
 i46:=by kernel_rfl
 i51:=by kernel_rfl
 i53:=by kernel_rfl
 i171:=by kernel_rfl
 i173:=by kernel_rfl
 i212:=by kernel_rfl
 i232:=by kernel_rfl
 i233:=by kernel_rfl
 m17:=by kernel_rfl
 m18:=by kernel_rfl
 m19:=by kernel_rfl}
def Q36(B n)(i:Int)(F: -9223372036854775808<=i)(G:i<=9223372036854775807)(C:Bk){xs}(w:Bh)(H:w.ownsRow B 5 1 C n xs)(J:B<=w)(K:n+21<=140737488355328)(L:Lib.TabBelow prog B w "internal/strconv.uint64pow10" .u64 Lib.pow10Tab):
  Bv prog 210 #[C,i,I Z 10] w λe w'=>∃E,e=.returned E/\w'.ownsRow B 5 1 E (n+(Lib.itoa i).length) (xs++Lib.byteCells (Lib.itoa i))/\Bp B w w'/\Lib.OthersKept 5 N w w':=Any.strconv_AppendInt_10 Qt6 B n i F G C xs w H J K L
def Qx1{α:Type}(rd:List Bk->α->Prop)(sz:Nat)(w:Bh)(v:Bk)(xs:List α):Prop:=
 ∃(p:Option Cp) (cap:Nat),v=A p xs cap/\xs<=cap/\xs<=Bu/\
  ∀(i:Nat) (h:i<xs),∃b o,p=R ⟨b,o,N⟩/\∃cs,cs.length=sz/\Qy2 w b (o+i * sz) cs/\rd cs xs[i]
def Rx:(t:Ty)->Bh->List Bk->t.den->Prop
 | .int,_,vs,n=>vs=[I Z n]/\Qyn n
 | .bool,_,vs,b=>vs=[.bool b]
 | .pair a b,w,vs,x=>∃v1 v2,vs=v1++v2/\Rx a w v1 x.1/\Rx b w v2 x.2
 | .slice e,w,vs,xs=>∃v,vs=[v]/\Qx1 (Rx e w) e.sz w v xs
theorem Rx.length: {t:Ty}-> {w:Bh}-> {vs:List Bk}-> {x:t.den}->Rx t w vs x->vs=t.sz
 | .int,_,_,_,h=>by simp[h.1,Ty.sz]
 | .bool,_,vs,b,h=>by have B:vs=[.bool b]:=h;simp[B,Ty.sz]
 | .pair _ _,_,_,_,⟨_,_,e,h1,h2⟩=>by simp[e,Ty.sz,h1.length,h2.length]
 | .slice _,_,_,_,⟨_,e,_⟩=>by simp[e,Ty.sz]
theorem Rx.kept: {t:Ty}-> {w w':Bh}-> {vs:List Bk}-> {x:t.den}->Rx t w vs x->Qh0 w w'->Rx t w' vs x
 | .int,_,_,_,_,h,_=>h
 | .bool,_,_,_,_,h,_=>h
 | .pair _ _,_,_,_,_,⟨v1,v2,e,h1,h2⟩,k=>⟨v1,v2,e,h1.kept k,h2.kept k⟩
 | .slice _,_,_,_,_,⟨v,e,p,cap,hv,h1,h2,hx⟩,k=>⟨v,e,p,cap,hv,h1,h2,λi B=>by obtain⟨b,o,C,cs,E,F,G⟩:=hx i B;exact⟨b,o,C,cs,E,F.kept k,G.kept k⟩⟩
theorem Rx.kb{t w w' vs x}(h:Rx t w vs x)(k:Bp w.heap.size w w'):Rx t w' vs x:=h.kept (Am k)
def Q0v{e w vs}{xs:List e.den}(h:Rx (.slice e) w vs xs):∃d,vs=[d]/\Rx (.slice e) w [d] xs:=by
 obtain⟨d,rfl,h⟩:=h;exact⟨d,rfl,d,rfl,h⟩
def Q5d{e w v}{xs:List e.den}(h:Rx (.slice e) w [v] xs):Qx1 (Rx e w) e.sz w v xs:=by
 obtain⟨d,e,h⟩:=h;obtain rfl:v=d:=by simpa using e
 exact h
def Qwl(P:Eu)(r:Ty->Cd->Bool):Ty->List Field->Nat->Bool
 |t,[f],o=>f.offset==o && P.cellsOf f.type==t.sz && r t f.type
 | .pair a b,f::g::fs,o=>f.offset==o && P.cellsOf f.type==a.sz && r a f.type && Qwl P r b (g::fs) (o+a.sz)
 |_,_,_=>Bm
def Qvq(P:Eu):Nat->Ty->Cd->Bool
 |0,_,_=>Bm
 |n+1,t,T=>
  match P.underlying T,t with
  |some (TypeDesc.int Z),.int=>Bn
  |some (.slice E),.slice e=>P.cellsOf E==e.sz && Qvq P n e E
  |some (.struct fs),t=>P.cellsOf T==t.sz && Qwl P (Qvq P n) t fs.toList 0
  |_,_=>Bm
section
variable {H:Type} {ecc:Cd×Bk->H} {P:Eu} {w:Bh} {sp:Nat->Bool} {held:Bool}
def Qo3{r:Ty->Cd->Bool}(m:Nat)
  (F:∀(t:Ty) (T:Cd) (cs:List Bk) (x:DataW H×List MemPlace),r t T=Bn->DataW.trod ecc P w 0 sp held m T cs=R x->∃d,Rx t w cs d) (cs:List Bk):
  ∀(t:Ty) (C:List Field) (o:Nat),Qwl P r t C o=Bn->cs=o+t.sz->(∀f∈C,∃x,DataW.trod ecc P w 0 sp held m f.type ((cs.drop f.offset).take (P.cellsOf f.type))=R x)->∃d,Rx t w (cs.drop o) d
 |t,[f],o,B,G,ha=>by
  have B:(f.offset==o && P.cellsOf f.type==t.sz && r t f.type)=Bn:=by cases t<;>exact B
  simp only[Bi,beq_iff_eq]at B;obtain⟨⟨J,K⟩,L⟩:=B;obtain⟨x,E⟩:=ha f (Bb.2 rfl);rw[J,K,Ao (by rw[Dp];omega)]at E;exact F t f.type _ x L E
 | .pair a b,f::g::C,o,B,G,ha=>by have B:(f.offset==o && P.cellsOf f.type==a.sz && r a f.type && Qwl P r b (g::C) (o+a.sz))=Bn:=B;simp only[Bi,beq_iff_eq]at B;obtain⟨⟨⟨J,K⟩,L⟩,M⟩:=B;have G:cs=o+(a.sz+b.sz):=G;obtain⟨x,E⟩:=ha f (Ae ..);rw[J,K]at E;obtain⟨O,S⟩:=F a f.type _ x L E;obtain⟨U,V⟩:=Qo3 m F cs b (g::C) (o+a.sz) M (by omega) (λW X=>ha W (Aa _ X));refine⟨(O,U),_,_, ?_,S,V⟩;rw[<-List.drop_drop,Fh]
 | .int,f::g::C,o,B,_,_=>by cases B
 | .bool,f::g::C,o,B,_,_=>by cases B
 | .slice e,f::g::C,o,B,_,_=>by cases B
 | .int,[],o,B,_,_=>by cases B
 | .bool,[],o,B,_,_=>by cases B
 | .slice e,[],o,B,_,_=>by cases B
 | .pair a b,[],o,B,_,_=>by cases B
def Qi7{a n cs}(h:w.cells? 0 a n=R cs):cs=n/\∀j (C:j<cs.length),w.cell? (a.add j)=R cs[j]:=by
 unfold World.cells? at h;have B:=mapM_some_length h;rw[List.length_range]at B;refine⟨B,λj C=> ?_⟩;have:=mapM_some_get h j j (by rw[List.getElem?_range (by omega)]);grind
theorem Qkb(b o n:Nat):(⟨b,o,N⟩:Cp).add n=⟨b,o+n,N⟩:=by
 unfold Addr.add;split<;>simp_all
def Qpb:∀(t:Ty),0<t.sz
 | .int=>Nat.one_pos
 | .bool=>Nat.one_pos
 | .slice _=>Nat.one_pos
 | .pair a b=>by have:=Qpb a;show 0<a.sz+b.sz;omega
def Qbt:∀(n:Nat) (t:Ty) (T:Cd) (m:Nat) (cs:List Bk) (x:DataW H×List MemPlace),Qvq P n t T=Bn->DataW.trod ecc P w 0 sp held m T cs=R x->∃d,Rx t w cs d
 |0,_,_,_,_,_,h,_=>by cases h
 |n+1,t,T,m,cs,x,h,hx=>by
  unfold Qvq at h;split at h
  ·rename_i J
   obtain⟨k,rfl,-,Y⟩:=DataW.trod_int J hx;refine⟨k,rfl, ?_⟩;simp[Lit.wf,IntKind.min,IntKind.max,IntKind.signed,IntKind.bits]at Y;unfold Qyn;omega
  ·rename_i E e J
   simp only[Bi,beq_iff_eq]at h;rcases DataW.trod_slice J hx with⟨rfl,-⟩|⟨a,F,c,A0,rest,k,rfl,rfl,-,-,hc,hm,A1,g,-⟩
   ·exact⟨[],_,rfl,N,0,rfl,Aj _,Ak _,λi B=>by simp at B⟩
   have X:∀i,i<F->∃(cs:List Bk) (y:DataW H×List MemPlace),w.cells? 0 (a.add (i * e.sz)) e.sz=R cs/\DataW.trod ecc P w 0 sp held k E cs=R y:=by intro i B;have C:=g i B;rw[Ad (by omega)]at C;obtain⟨cs,G,O⟩:=Option.bind_eq_some_iff.1 C;rw[h.1]at G;exact⟨cs,_,G,O⟩
   have l:0<F->a.spot=N:=by intro L;obtain⟨cs,-,G,-⟩:=X 0 L;obtain⟨K,S⟩:=Qi7 G;have:=World.cell?_spot (S 0 (by rw[K];exact Qpb e));simpa[Addr.add]using this
   have M:∀i,i<F->∃(d:e.den) (cs:List Bk),a.spot=N/\cs=e.sz/\Qy2 w a.block (a.off+i * e.sz) cs/\Rx e w cs d:=by intro i B;obtain⟨cs,y,G,O⟩:=X i B;obtain⟨K,S⟩:=Qi7 G;obtain⟨d,p⟩:=Qbt n e E _ cs y h.2 O;have U:=l (by omega);refine⟨d,cs,U,K,λj q=> ?_,p⟩;have L:=S j q;obtain⟨b,o,s⟩:=a;simp only at U;subst U;rw[Qkb,Qkb]at L;exact L
   obtain⟨xs,V,r⟩:∃xs:List e.den,xs=F/\∀i (B:i<xs.length),∃cs:List Bk,a.spot=N/\cs=e.sz/\Qy2 w a.block (a.off+i * e.sz) cs/\Rx e w cs xs[i]:=by
    refine⟨List.ofFn λi:Fin F=>(M i.1 i.2).choose,by simp,λi B=> ?_⟩;have u:i<F:=by simpa using B
    obtain⟨cs,C⟩:=(M i u).choose_spec;refine⟨cs, ?_⟩;rw[List.getElem_ofFn];exact C
   refine⟨xs,_,rfl,R a,c,by rw[V],by omega,by omega,λi B=> ?_⟩;obtain⟨cs,C,W,v,z⟩:=r i B;refine⟨a.block,a.off, ?_,cs,W,v,z⟩;obtain⟨b,o,s⟩:=a;simp only at C;rw[C]
  ·rename_i t o' t' fs J
   simp only[Bi,beq_iff_eq]at h;obtain⟨xs,k,rfl,-,K,V,M⟩:=DataW.trod_struct J hx;have:=Qo3 (ecc:=ecc) (sp:=sp) (held:=held) k (λt T cs x=>Qbt n t T k cs x) cs t fs.toList 0 h.2 (by rw[K,h.1,Cg]) (λf hf=>by
    obtain⟨i,B,he⟩:=Av.1 hf;have C:=M i f (by rw[<-Array.getElem?_toList,Ad B,he]);have W:i<xs.length:=by rw[V];simpa using B
    exact⟨xs[i],by rw[C,Ad W]⟩)
   simpa using this
  cases h
end
end Go.Proofs.YtcjngpfigpglfaaGreatDoor
