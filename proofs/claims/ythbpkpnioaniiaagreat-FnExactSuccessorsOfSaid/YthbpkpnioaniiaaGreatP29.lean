import Derived.Test.YthbpkpnioaniiaaGreatP28
set_option maxHeartbeats 40000000
set_option maxRecDepth 100000
set_option linter.all false
namespace Go.Proofs.YthbpkpnioaniiaaGreat
open Go.RowKit Go.Proofs.Tryz
open Go.Value renaming int->I,slice->A
open Go.IntKind renaming i64->Z
open Option renaming none->N,some->R
open Bool renaming false->Bm,and_eq_false_iff->Hk,not_false->He
open Go renaming World->Bh,heap_alloc_new->Bg
open List renaming map_cons->Fk,sum_cons->Fp,length_cons->Bs,length_append->Bo,mem_of_getElem?->Ha,length_set->Br,foldl_cons->Ce,drop_eq_nil_of_le->Gh
open Nat renaming zero_add->Cd,add_zero->Cq,le_succ->Hp,zero_mul->Db
theorem Qed(c:Qb):Qqy Q3 c=(aD c).length+(aW c).length:=by
 show Qqy .int _+(Qqy .int _+(Qqy .int _+(Qqy (.slice .int) _+Qqy (.slice Q4) _)))=_;rw[Zd rfl,Zd rfl];simp only[Va,Cd];rfl
theorem Q7m(x:Qqb):Qqy Qc x=(wX x).length+((wL x).length+(wC x).length):=by
 show Qqy .int _+(Qqy .int _+(Qqy (.slice Q4) _+(Qqy (.slice Qu) _+Qqy (.slice .int) _)))=_;rw[Zd rfl,Zd rfl,Zd rfl];simp only[Va,Cd];rfl
theorem Qlc(m:Qqp):Qqy Qo m=((mC m).length+Q6e Q3 (mC m))+(mX m).length:=by
 show Qqy (.slice Q3) _+(Qqy .int _+((Qqy .int _+Qqy .int _)+Qqy (.slice Q4) _))=_;rw[Q0a,Zd rfl];simp only[Va,Cd,Cq];rfl
theorem Qh8(p:J9):Qqy Qr p=Qqy Qo (pM p)+((pW p).length+Q6e Qc (pW p)):=by
 show Qqy Qo _+(Qqy (.slice Qc) _+Qqy .int _)=_;rw[Q0a];simp only[Va,Cq];rfl
theorem Q6a{e:Ty}{B:Nat}:∀(xs:List e.den),(∀x∈xs,Qqy e x<=B)->Q6e e xs<=xs.length * B
 | [],_=>by simp[Q6e]
 |x::r,h=>by
  have E:=Q6a r λy C=>h y (Aa _ C);have F:=h x Ae;unfold Q6e at *
  rw[Fk,Fp,Bs,Nat.succ_mul];omega
theorem Q35{e:Ty}{α:Type}(f:e.den->List α)(c:Nat)(B:∀x,(f x).length<=c * Qqy e x):∀xs:List e.den,(xs.flatMap f).length<=c * Q6e e xs
 | []=>by simp[Q6e]
 |x::r=>by
  have C:=Q35 f c B r;have E:=B x;unfold Q6e at *
  rw[List.flatMap_cons,Bo,Fk,Fp,Nat.mul_add];omega
theorem Qel(p:J9):(Z6 (pM p)).length+(Vi (pW p)).length<=1+2 * Qqy Qr p/\(Qz (pW p)).length<=Qqy Qr p:=by
 have B:((mC (pM p)).flatMap aW).length<=1 * Q6e Q3 (mC (pM p)):=Q35 (e:=Q3) aW 1 (λc=>by rw[Qed];omega) (mC (pM p));have C:(Vi (pW p)).length<=2 * Q6e Qc (pW p):=Q35 (e:=Qc) (α:=Wd) (λ(w:Qqb)=>(wL w).flatMap λ(l:Qqt)=> [l.1,l.2]) 2 (λx=>by
  rw[Q7m,List.length_flatMap];have:∀l:List Qqt,(l.map λa=> [a.1,a.2].length).sum=2 * l.length:=λl=>by
   induction l with
   |nil=>rfl
   |cons a r ih=>rw[Fk,Fp,ih,Bs];simp;omega
  rw[this];omega) (pW p)
 have E:(Qz (pW p)).length<=1 * Q6e Qc (pW p):=Q35 (e:=Qc) wX 1 (λx=>by rw[Q7m];omega) (pW p);rw[Qh8,Qlc];unfold Z6;rw[Bs];omega
def Zp(K:Nat)(m:Qqp):Prop:=∀c∈mC m,(aD c).length<=K/\(aW c).length<=K
theorem Zp.get{K:Nat}{m:Qqp}(h:Zp K m)(i:Int):(aD (Q7 (mC m) i)).length<=K/\(aW (Q7 (mC m) i)).length<=K:=by
 unfold Q7 Qn;rw[Ab];rcases e:(mC m)[i.toNat]? with _|c
 ·exact⟨Ak _,Ak _⟩
 ·exact h c (Ha e)
theorem Zp.mono{K L:Nat}{m:Qqp}(h:Zp K m)(B:K<=L):Zp L m:=λc C=>⟨Au (h c C).1 B,Au (h c C).2 B⟩
theorem Zp.set{K:Nat}{m:Qqp}{i:Nat}{y:Qb}{f:Int}{r:Wd}{x:List Wd}(h:Zp K m)(C:(aD y).length<=K/\(aW y).length<=K):Zp K ((mC m).set i y,f,r,x):=λc B=>by
 rcases List.mem_or_eq_of_mem_set B with B|rfl
 ·exact h c B
 ·exact C
theorem Zp.take{K:Nat}{m:Qqp}{y:Qb}(h:Zp K m)(B:(aD y).length<=K/\(aW y).length<=K):Zp K (Qj m y):=h.set B
theorem Zp.release{K:Nat}{m:Qqp}{i:Int}(h:Zp K m):Zp K (Qg m i):=h.set ⟨Ak _,Ak _⟩
theorem Zp.words{K:Nat}{m:Qqp}{i:Int}{ws:List Wd}(h:Zp K m)(B:ws.length<=K):Zp K (Qa m i ws):=h.set ⟨(h.get i).1,B⟩
theorem Zp.add{K:Nat}{m:Qqp}{i:Int}{x:Wd}(h:Zp K m):Zp (K+1) (Vb m i x):=(h.mono (Hp _)).words (by rw[Bo];have:=(h.get i).2;simp;omega)
theorem Zp.word{K:Nat}{m:Qqp}{i k:Int}{x:Wd}(h:Zp K m):Zp K (Qh m i k x):=h.words (by rw[Br];exact(h.get i).2)
theorem Zp.redex{K:Nat}{m:Qqp}{a b:Int}(h:Zp K m):Zp K (Yu m a b):=h
theorem Qd3{K:Nat}(C:2<=K)(B c d:Int):∀(ws:List Wd) (s:Qqp×List Qqt) (L:Nat),K<=L->Zp L s.1->Zp (L+2 * ws.length) (ws.foldl (Yr B c d) s).1
 | [],_,_,_,h=>h
 |w::r,s,L,hl,h=>by
  rw[Ce,Bs];have E:Zp (L+2) (Yr B c d s w).1:=by unfold Yr Qv Z5;refine Zp.add (Zp.add ((((h.take ?_).take ?_).take ?_).words ?_))<;>simp[aD,aW]<;>omega
  exact(Qd3 C B c d r _ (L+2) (by omega) E).mono (by omega)
theorem Qdf{K:Nat}:∀(ws:List Wd) (s:Qqp×List Qqt),Zp K s.1->Zp K (ws.foldl Yn s).1
 | [],_,h=>h
 |w::r,s,h=>by rw[Ce];exact Qdf r _ (h.take ⟨Ak _,Ak _⟩)
theorem Qb4{K:Nat}{m:Qqp}{l:Int}(h:Zp K m):∀n,Zp K (Jb m l n).1
 |0=>h
 |n+1=>(Qb4 h n).take ⟨Ak _,Ak _⟩
theorem Q7y{α:Type}{K:Nat}{f:Qqp->α->Qqp}(B:∀m a,Zp K m->Zp K (f m a)):∀(l:List α) (m:Qqp),Zp K m->Zp K (l.foldl f m)
 | [],_,h=>h
 |a::r,m,h=>by rw[Ce];exact Q7y B r _ (B m a h)
theorem Qaf{α:Type}{K:Nat}{f:Qqp×Wd->α->Qqp×Wd}(B:∀s a,Zp K s.1->Zp K (f s a).1):∀(l:List α) (s:Qqp×Wd),Zp K s.1->Zp K (l.foldl f s).1
 | [],_,h=>h
 |a::r,m,h=>by rw[Ce];exact Qaf B r _ (B m a h)
theorem Qaw{K:Nat}{n:Qr2}{l:Int}{m:Qqp}(B:∀i,(aD (Qn n i)).length<=K/\(aW (Qn n i)).length<=K)(h:Zp K m):∀j,Zp K (Q00 n l m j)
 |0=>h
 |j+1=>(Qaw B h j).take ⟨(B _).1,by simp only[Q3e,aW,List.length_replicate];have:=(B (j+1)).2;simp only[aW]at this;omega⟩
theorem Qhs{bk:List Qr2}{m:Qqp}{H a b:Int}{K:Nat}(J:2<=K)(h:Zp K m)(L:∀n∈bk,∀i,(aD (Qn n i)).length<=K/\(aW (Qn n i)).length<=K):Zp (3 * K) (Jf bk m H a b).1:=by
 have O:=h.get a;have E:=h.get b;have B:Zp K (Qg (Qg m a) b):=h.release.release;have C:K<=3 * K:=by omega
 unfold Jf;simp only;split
 ·refine Zp.mono ?_ C
  unfold Vo;simp only;have M:∀i,(aD (Qn (Vo.netOf' bk (aV (Q7 (mC m) a))) i)).length<=K/\(aW (Qn (Vo.netOf' bk (aV (Q7 (mC m) a))) i)).length<=K:=by
   unfold Vo.netOf';rw[Ab];rcases e:bk[(aV (Q7 (mC m) a)).toNat]? with _|n
   ·intro i;simp[Qn,Qab,aD,aW]
   ·exact L n (Ha e)
  have F:Zp K (V5 (Vo.netOf' bk (aV (Q7 (mC m) a))) (aL (Q7 (mC m) a)) (1,b) (Qg m a)).1:=by
   unfold V5;simp only;refine Q7y (λm p h=>h.redex) _ _ (Qaf (λs w h=> ?_) _ _ (Qaw M h.release _));unfold Y7;simp only;repeat' split
   ·exact h
   ·exact h.word
   ·exact((h.take (y:=Z5) ⟨Ak _,Ak _⟩).word).word
   ·exact h.word
   ·exact h.word
   ·exact h
  split
  ·exact F.redex
  ·exact F
 ·repeat' split
  ·exact B.mono C
  ·unfold Qd0
   simp only;refine(Qd3 J _ _ _ _ _ K (Aj _) ?_).mono (by omega);refine Zp.take (Zp.take B ?_) ?_
   ·exact⟨E.1,Ak _⟩
   ·exact⟨E.1,Ak _⟩
  ·exact(Qdf _ _ B).mono C
  ·refine Zp.mono (B.take ?_) C
   split
   ·exact⟨Ak _,Ak _⟩
   ·constructor<;>simp[aD,aW]<;>omega
  ·refine Zp.mono ?_ C
   unfold Vy;simp only;have G:=Qb4 (l:=aL (Q7 (mC m) b)) (B.take (y:=(12,aL (Q7 (mC m) b),Q12 (Q7 (mC m) a) (Q7 (mC m) b),[],[])) ⟨Ak _,Ak _⟩) (aW (Q7 (mC m) a)).length;split
   ·exact G
   ·exact(Q7y (λm i h=>h.words (by simp[Q1t];omega)) _ _ G).redex
  ·exact B.mono C
theorem Qoo(bk:List Qr2)(m:Qqp)(J a b:Int):(mC (Jf bk m J a b).1).length=(mC m).length:=by
 have B:∀ {α:Type} {f:Qqp×List Qqt->α->Qqp×List Qqt} (_:∀s a,(mC (f s a).1).length=(mC s.1).length) (l:List α) (s:Qqp×List Qqt),(mC (l.foldl f s).1).length=(mC s.1).length:=λB l=>by
  induction l with
  |nil=>intro s;rfl
  |cons a r ih=>intro s;rw[Ce,ih];exact B s a
 have F:∀ {α:Type} {f:Qqp->α->Qqp} (_:∀s a,(mC (f s a)).length=(mC s).length) (l:List α) (s:Qqp),(mC (l.foldl f s)).length=(mC s).length:=λB l=>by
  induction l with
  |nil=>intro s;rfl
  |cons a r ih=>intro s;rw[Ce,ih];exact B s a
 have K:∀ {α:Type} {f:Qqp×Wd->α->Qqp×Wd} (_:∀s a,(mC (f s a).1).length=(mC s.1).length) (l:List α) (s:Qqp×Wd),(mC (l.foldl f s).1).length=(mC s.1).length:=λB l=>by
  induction l with
  |nil=>intro s;rfl
  |cons a r ih=>intro s;rw[Ce,ih];exact B s a
 have G:∀(m:Qqp) (l:Int) (n:Nat),(mC (Jb m l n).1).length=(mC m).length:=λm l n=>by
  induction n with
  |zero=>rfl
  |succ n ih=>show(mC (Qj _ _)).length=_;rw[Qd,ih]
 have L:∀(n:Qr2) (l:Int) (m:Qqp) (j:Nat),(mC (Q00 n l m j)).length=(mC m).length:=λn l m j=>by
  induction j with
  |zero=>rfl
  |succ j ih=>show(mC (Qj _ _)).length=_;rw[Qd,ih]
 have E:∀(m:Qqp) (i k:Int) (x:Wd),(mC (Qh m i k x)).length=(mC m).length:=λm i k x=>Q0o _ _ _;have C:(mC (Qg (Qg m a) b)).length=(mC m).length:=by rw[Zk,Zk]
 unfold Jf;simp only;split
 ·unfold Vo
  simp only;have H:(mC (V5 (Vo.netOf' bk (aV (Q7 (mC m) a))) (aL (Q7 (mC m) a)) (1,b) (Qg m a)).1).length=(mC m).length:=by
   unfold V5;simp only;rw[F (λs p=>Q3v _ _ _),K,L,Zk];intro s w;unfold Y7 Qv;simp only;repeat' split
   all_goals first|rfl|(rw[E,E,Qd])|rw[E]
  split
  ·rw[Q3v,H]
  ·exact H
 ·repeat' split
  ·exact C
  ·unfold Qd0
   simp only;rw[B (f:=Yr _ _ _),Qd,Qd,C];intro s w;unfold Yr Vb Qa Qv;simp only[Q0o,Qd]
  ·rw[B (f:=Yn) (λs w=>Qd _ _)];exact C
  ·show(mC (Qj _ _)).length=_;rw[Qd,C]
  ·unfold Vy
   simp only;split
   ·rw[G,Qd,C]
   ·rw[Q3v,F (f:=Yw _ _ _) (λs i=>Q0o _ _ _),G,Qd,C]
  ·exact C
structure Jp (p:J9):Prop where
 c:Zp 3000 (pM p)
 n:(mC (pM p)).length<=1500
 x:(mX (pM p)).length<=1000000
 w:(pW p).length<=4
 wk:∀v∈pW p,(wX v).length<=4000000/\(wL v).length<=4000000/\(wC v).length<=7
theorem Jp.dsz{p:J9}(h:Jp p):Qqy Qr p<=100000000:=by
 have H:=Q6a (e:=Q3) (B:=6000) (mC (pM p)) λc C=>by rw[Qed];have:=h.c c C;omega
 have J:=Q6a (e:=Qc) (B:=8000007) (pW p) λv E=>by rw[Q7m];have:=h.wk v E;omega
 have F:=h.n;have K:=h.x;have G:=h.w;rw[Qh8,Qlc];have L:(mC (pM p)).length * 6000<=1500 * 6000:=Bd _ F;have M:(pW p).length * 8000007<=4 * 8000007:=Bd _ G;omega
theorem Qhv(w:Bh)(pb s:Nat)(p:J9)(P:PS)(k:Nat)(h:Zj w pb s p P)(hk:k<(pW p).length)(hl:0<(wL (Q5 p k)).length)(E6:(wL (Q5 p k)).length<=1000000)(E7:(wX (Q5 p k)).length<=1000000)
  (g1:Zh (mC (pM p)) (Q33 (Q5 p k)).1=true) (g2:Zh (mC (pM p)) (Q33 (Q5 p k)).2=true):
  Calls prog 94 #[.pointer (R ⟨pb,s,N⟩),.pointer (R ⟨P.wb,P.wo+k * 5,N⟩)] w λe w'=>e=.returned (.tuple #[])/\∃P',Qy w P pb s w' ((Jq (pM p) (Q5 p k)).1,(pW p).set k (Jq (pM p) (Q5 p k)).2,pA p) P':=by
 have HP:=qh h;obtain⟨pl,cl,Gl,c3,AL,B6,B7,B8,B9⟩:=h.focL hk;obtain⟨G,H,rfl,hE⟩:=Rd.elem AL.rd 0 hl;have CG:=qh AL;have E8:=qh B7;have E9:=qh B8;have CH:=qh B9;have CI:=qh B6;have EA:(wL (Q5 p k)).length<=cl:=by obtain⟨_,_,he,h1,_⟩:=J6 AL.rd;simp only[List.cons.injEq,Value.slice.injEq,and_true]at he;omega
 have AX:D (Q33 (Q5 p k)=(wL (Q5 p k))[0]):=qh (by unfold Q33;rw[Ab,Ad hl];rfl);have CJ:=qh (Qex (f:=λx=>Zh (mC (pM p)) x=true) g1 g2);have HG:D ((Zh (mC (pM p)) (Q33 (Q5 p k)).1=true/\Zh (mC (pM p)) (Q33 (Q5 p k)).2=true)):=qh (⟨g1,g2⟩);clear g1 g2 AL B7 B8 B9 B6;have BA:=AX.o;generalize (wL (Q5 p k))[0]=l0 at *
 obtain⟨⟨Y,l⟩,⟨O,m⟩⟩:=l0;obtain⟨⟨e0,e1,e2,e3⟩,i0,i1,i2,i3⟩:=hE.link;simp only[Db,Cq]at e0 e1 e2 e3;have HI:D ((Qqm Y/\Qqm l)/\(Qqm O/\Qqm m)):=qh (⟨⟨i0,i1⟩,i2,i3⟩);have EB:=i1.bd;have EC:=i3.bd;have ED:(0:Int)<(wL (Q5 p k)).length:=by omega
 have CK:=h.mem.blk.lt;have CL:=Ac w _ c3;have CM:=Ac w _ e0;simp only at CL CM;rw[BA]at HG;have HT:D ((Y=1\/Y=2)/\(O=1\/O=2)):=qh (by have h1:=(Q2m HG.o.1).2;have h2:=(Q2m HG.o.2).2;simp only at h1 h2;omega);clear hE i0 i1 i2 i3 h BA;go_enter func94,ntmps94;go_upto_region 2 with fail
 refine Qq ?_;intro W1 BB;have AM:D (Below w.heap.size w W1/\W1.heap[w.heap.size]?=R (.cells #[I Z Y,I Z l] 40 (0,0))/\W1.heap[w.heap.size+1]?=R (.cells #[I Z O,I Z m] 40 (0,0))):=qh (by rw[BB];exact⟨by go_grown,(Jn w _ _ _ _).1,(Jn w _ _ _ _).2⟩);clear BB;obtain⟨A5,AN,AO⟩:D _/\D _/\D _:=⟨qh AM.o.1,qh AM.o.2.1,qh AM.o.2.2⟩;clear AM;obtain⟨⟨x0,x1⟩,xf⟩:=Za AN.o;obtain⟨⟨y0,z⟩,yf⟩:=Za AO.o;have CN:=A5.o.size;have CO:=(Am A5.o).cell _ _ c3;have CP:=(Am A5.o).cell _ _ e0;have CQ:=(Am A5.o).cell _ _ e1;have CR:=(Am A5.o).cell _ _ e2;have CS:=(Am A5.o).cell _ _ e3;clear e0 e1 e2 e3;go_cut [35] (λq wx=>q=.bool (O==2 && (Y !=2||decide (l<m)))/\W1=wx)
 case first=>
  have CT:(O=1)\/(O=2/\Y=1)\/(O=2/\Y=2/\l<m)\/(O=2/\Y=2/\m<=l):=by have:=HT.o;omega
  rcases CT with rfl|⟨rfl,rfl⟩|⟨rfl,rfl,hlt⟩|⟨rfl,rfl,hge⟩
  all_goals
   go_wp2_with fail
   go_meet;refine⟨?_,rfl⟩;first|(simp;done)|(simp;omega)
 case rest=>
  obtain⟨rfl,rfl⟩:=hcut;obtain⟨q,hq⟩:∃q:Bool,q=(O==2 && (Y !=2||decide (l<m))):=⟨_,rfl⟩;have HQ:D (Q5f ((Y,l),(O,m))=if q then((O,m),(Y,l))else((Y,l),(O,m))):=qh (by rw[hq];rfl);rw[<-hq];clear hq;go_upto_if 35 with(fail)
  go_cut [49] (λ_ wx=>∃A1 B E C:Int,D (Q5f (Q33 (Q5 p k))=((A1,B),(E,C)))/\D ((Qqm A1/\Qqm B)/\(Qqm E/\Qqm C))/\D (wx.heap[w.heap.size]?=R (.cells #[I Z A1,I Z B] 40 (0,0)))/\D (wx.heap[w.heap.size+1]?=R (.cells #[I Z E,I Z C] 40 (0,0)))/\D (Below w.heap.size w wx))
  case first=>
   cases q with
   |true=>
    go_wp2_with fail
    go_meet;exact⟨O,m,Y,l,qh (by rw[AX.o,HQ.o];rfl),qh ⟨HI.o.2,HI.o.1⟩,qh (Qn5 AN.o AO.o (by omega) _ _ _ _).1,qh (Qn5 AN.o AO.o (by omega) _ _ _ _).2,qh ((((A5.o.setCell (Aj _) _).setCell (Aj _) _).setCell (Hp _) _).setCell (Hp _) _)⟩
   |false=>
    go_wp2_with fail
    go_meet;exact⟨Y,l,O,m,qh (by rw[AX.o,HQ.o];rfl),HI,AN,AO,A5⟩
  case rest=>
  obtain⟨A1,B,E,C,AE,L,CU,BC,AP⟩:=hcut;rename Bh=>W2
  clear HQ;clear x0 x1 xf y0 z yf CN CO CP CQ CR CS;obtain⟨⟨x0,x1⟩,xf⟩:=Za CU.o;obtain⟨⟨y0,z⟩,yf⟩:=Za BC.o;have EE:=AP.o.size;have EF:=(Al.1 BC.o).1;have g:=qh ((Qy.start HP.o).below AP.o);have BD:=Q2m (w:=(A1,B)) (by have:=CJ.o.1;rw[AE.o]at this;exact this);simp only at BD;obtain⟨⟨BE,BF⟩,BG⟩:=BD;have EG:=L.o.1.2.bd;have EH:=L.o.2.2.bd;have CV:(A1=1)\/(A1=2/\E=2/\B=C)\/(A1=2/\¬(E=2/\B=C)/\(Q26 (pM p) B).length=0)\/(A1=2/\¬(E=2/\B=C)/\0<(Q26 (pM p) B).length):=by omega
  have EI:=qh BG;have AB:=qh CK;clear BG;rcases CV with rfl|⟨rfl,rfl,rfl⟩|⟨rfl,hn,hw0⟩|⟨rfl,hn,hw0⟩
  focus
   obtain⟨pr,cr,Gr,r2,BH,BI,AF,BJ⟩:=g.o.pool.focR hk;have BK:=qh BH;have CW:=qh BI;have EJ:=qh AF;have CX:=qh BJ;have BL:D (Qqm (min B C)/\Qqm (max B C)):=qh (by unfold Qqm;omega);have BM:¬P.wb∈Gr:=λe=>(AF _ e).2.2.1 rfl;have AY:=HP.o.lt;have BN:¬w.heap.size∈Gr:=λe=>by have:=AY _ (Aa _ (AF _ e).1);omega
   have BO:¬w.heap.size+1∈Gr:=λe=>by have:=AY _ (Aa _ (AF _ e).1);omega
   have BP:D (∀W,Q1 (λc=>c∈Gr\/c=P.wb) W2 W->W.cell? ⟨w.heap.size,1,N⟩=R (I Z B)/\W.cell? ⟨w.heap.size+1,1,N⟩=R (I Z C)):=qh (λW hf=>⟨Qf hf x1 (λe=>e.elim BN λe=>by omega),Qf hf z (λe=>e.elim BO λe=>by omega)⟩);have CY:=λq=>g.o.pool.wks.blk.free q;have CZ:=g.o.pool.wks.blk.lt;have AZ:=qh (And.intro BM CZ);have A8:D (Jq (pM p) (Q5 p k)=(pM p,(wP (Q5 p k),wV (Q5 p k),wX (Q5 p k)++ [(min B C,max B C)],(wL (Q5 p k)).drop 1,wC (Q5 p k)))):=qh (by unfold Jq;rw[AE.o];rfl);obtain⟨i0,D0,D1,D2,D3⟩:=info_parts J4;clear BH BI AF BJ AY BN BO BM;go_upto_region 13 with fail
   go_cut [105] (λ_ wx=>∃(J:J9) (d:PS),D (Qy w P pb s wx J d)/\D (wL (Q5 J k)=wL (Q5 p k))/\D (k<(pW J).length)/\D (((Jq (pM p) (Q5 p k)).1,(pW p).set k (Jq (pM p) (Q5 p k)).2,pA p)=Vt J k (Q7e (Q5 J k) ((wL (Q5 p k)).drop 1))))
   case first=>
    have EK:=Qpr;rw[<-Qpr _ (.tmp 108)]
    go_region_held3(λW=>W.cell? ⟨w.heap.size,1,N⟩=R (I Z B)/\W.cell? ⟨w.heap.size+1,1,N⟩=R (I Z C))
     (first|with_reducible exact BP.o _ (A9.o.mono λ_ h=> .inl h)|with_reducible exact BP.o _ (Jl (A9.o.mono λ_ h=> .inl h) (.inr rfl) _)|(refine Qpa (w:=W2) ?_ x1 z;go_grown))
     (first|((go_at_call 140;(with_reducible refine(Qnx _ _ _).mono ?_);rintro e w' ⟨rfl,rfl⟩))|((go_at_call 141;(with_reducible refine(Qjv _ _ _).mono ?_);rintro e w' ⟨rfl,rfl⟩))|((refine Y6 _ rfl (.tmp 109) (.tmp 121) 41 rfl (e:=Q4) 117 i0 _ 16 underlying41 D0 D1 D2 D3 rfl (by decide) (v:=A pr (wX (Q5 p k)).length cr) (xs:=wX (Q5 p k)) (y:=(min B C,max B C)) (vs:=[I Z (min B C),I Z (max B C)]) (F:=Gr) W2.heap.size 1 rfl rfl (BK.o.kept λb U=>Az _ _ _ (BK.o.lt b U)) CW.o (Ow.word BL.o.1 BL.o.2) (Q5g (Q8 (Bg W2.drew _) rfl) (Q8 (Bg W2.drew _) rfl)) Qj1 (by omega) ?_;intro p3 D4 w3 F3 BQ BR BS BT;have D5:=qh BQ;have D6:=qh BR;have D7:=qh BS;have A9:=qh (Q1.trans (show Q1 (λc=>c∈Gr) W2 _ from((Q1.refl _ W2).alloc _).drew) BT);have EL:=λq=>(A9.o.frozen AZ.o.2 AZ.o.1 q).trans (CY q);have EM:=Qf A9.o r2 AZ.o.1;clear BQ BR BS BT)))
    all_goals
     go_wp2_with fail
     go_meet;obtain⟨d,h4⟩:=CX.o w3 p3 _ D4 _ F3 A9.o D5.o D6.o (λb U=>(D7.o b U).imp id λe=>by rw[e];simp);exact⟨_,d,qh (g.o.trans AB.o h4),qh (by rw[Q1p hk,if_pos rfl];rfl),qh (by show k<((pW p).set k _).length;rw[Br];exact hk),qh (by rw[A8.o,Q1p hk,if_pos rfl];show _=Vt (Vt p k _) k _;unfold Vt;simp only[pM,pW,pA,List.set_set];rfl)⟩
   obtain⟨J,d,A0,B0,B3,AQ⟩:=hcut;rename Bh=>M
  rotate_left
  focus
   have hq:=λw=>Q2j L.o.1.1 L.o.1.2 L.o.1.1 L.o.1.2 w;simp only[beq_self_eq_true,Bool.and_self,Bool.not_true]at hq;have A8:D (Jq (pM p) (Q5 p k)=(Qg (pM p) B,(wP (Q5 p k),wV (Q5 p k),wX (Q5 p k),(wL (Q5 p k)).drop 1,wC (Q5 p k)))):=qh (by simp[Jq,AE.o]);go_wp2_with fail
   go_still_tail 5,(by kernel_rfl)
   have n:=qh g.o.drew;go_upto_region 14 with((go_at_call 139;(with_reducible refine(Q7i _ _ _ _ _ n.o.pool.mem B BE BF).mono ?_);rintro e K ⟨rfl,hm,hf,AG⟩;have D8:=qh hm;have A9:=qh hf;have D9:=qh AG;clear hm hf AG))
   refine Qq ?_;intro M A3;obtain⟨J,d,A0,B0,B3,AQ⟩:∃(J:J9) (d:PS),D (Qy w P pb s M J d)/\D (wL (Q5 J k)=wL (Q5 p k))/\D (k<(pW J).length)/\D (((Jq (pM p) (Q5 p k)).1,(pW p).set k (Jq (pM p) (Q5 p k)).2,pA p)=Vt J k (Q7e (Q5 J k) ((wL (Q5 p k)).drop 1))):=by rw[A3];exact⟨(Qg (pM p) B,pW p,pA p),_,qh (n.o.trans AB.o (n.o.pool.stM D8.o (A9.o.mono λc hc=>hc.imp id Q19) D9.o (λb U=>(Zf U).elim (λh=>by simp at h) .inl))),qh rfl,qh hk,qh (by rw[A8.o];rfl)⟩
   clear A3
  rotate_left
  focus
   have hq:=λw=>Q2j L.o.1.1 L.o.1.2 L.o.2.1 L.o.2.2 w;have AA:(2==E && B==C)=Bm:=by simp only[Hk,beq_eq_false_iff_ne];omega
   have A8:D (Jq (pM p) (Q5 p k)=(Qa (pM p) B [(E,C)],(wP (Q5 p k),wV (Q5 p k),wX (Q5 p k),(wL (Q5 p k)).drop 1,wC (Q5 p k)))):=qh (by have B4:(((2:Int),B)==(E,C))=Bm:=AA;simp[Jq,AE.o,B4,hw0]);simp only[AA,He]at hq;have DA:=qh hn;have DB:=qh hw0;obtain⟨EN,EO,-,-,f4,-⟩:=g.o.pool.mem.focusW (i:=B) (by omega);have AH:(aW (Q7 (mC (pM p)) B)).length=0:=hw0;rw[AH]at f4;obtain⟨_,_,m0,-,-,-,-,-,-,-,-⟩:=g.o.pool.mem.head;have AI:=g.o.pool.mem.cells.bound;unfold maxLen at AI;obtain⟨DC,DD⟩:=AI;clear hn hw0 AA AH;go_wp2_with fail
   go_quiet(fail)
   refine Qq ?_;intro K A6;have A4:D (Below w.heap.size w K):=qh (by rw[A6];exact Q6 AP.o _);have V:Qcx W2 K:=by rw[A6];exact(Am (Q6 (Ai _ _) _))
   have n:D (Qy w P pb s K p P):=qh (by rw[A6];exact g.o.below (Q6 (Ai _ _) _));have x0:=V.cell _ _ x0;have x1:=V.cell _ _ x1;have y0:=V.cell _ _ y0;have z:=V.cell _ _ z;have f4:=V.cell _ _ f4;obtain⟨pw,cw,Gd,Gw,-,AC,DE,BU,BV⟩:=n.o.pool.mem.focusW (i:=B) (by omega);have DF:=qh BV;have DG:=qh BU;have EP:=λq=>n.o.pool.mem.cells.blk.free q;have DH:=n.o.pool.mem.cells.blk.lt;clear A6 AC DE BU BV V m0;go_upto_region 14 with fail
   refine Qq ?_;intro M A3;obtain⟨J,d,A0,B0,B3,AQ⟩:∃(J:J9) (d:PS),D (Qy w P pb s M J d)/\D (wL (Q5 J k)=wL (Q5 p k))/\D (k<(pW J).length)/\D (((Jq (pM p) (Q5 p k)).1,(pW p).set k (Jq (pM p) (Q5 p k)).2,pA p)=Vt J k (Q7e (Q5 J k) ((wL (Q5 p k)).drop 1))):=by rw[A3,<-World.setCell_alloc_past _ _ _ _ DH];have AC:=Q43 (Bg K _) L.o.2.1 L.o.2.2 (T:=40);have hm:=DF.o (K.alloc (.cells #[I Z E,I Z C] 40)) (R ⟨K.heap.size,0,N⟩) 1 1 [(E,C)] [K.heap.size] ((Q1.refl _ _).alloc _) AC rfl (by simp) (λb U=> .inr λhm=>by have:=n.o.pool.mem.lt b hm;rw[Bb.1 U]at this;omega);have hF:Q1 (λc=>c=P.S.cb) K ((K.alloc (.cells #[I Z E,I Z C] 40)).setCell ⟨P.S.cb,P.S.o+B.toNat * 5+4,N⟩ (A (R ⟨K.heap.size,0,N⟩) 1 1)):=Q1.setCell (X:=λc=>c=P.S.cb) (p:=⟨P.S.cb,P.S.o+B.toNat * 5+4,N⟩) ((Q1.refl _ _).alloc _) rfl _;have DI:=n.o.pool.mem.ne;exact⟨(Qa (pM p) B [(E,C)],pW p,pA p),_,qh (n.o.trans AB.o (n.o.pool.stM hm (hF.mono λc hc=> .inr (Q19 hc)) (Q9.of_frame hF DI.1 _ _) (λb U=>(Zf U).elim (λh=>(At0.1 h).elim (λh=> .inl (DG.o b (Ag _ h)).1) λh=> .inr (by rw[Bb.1 h];omega)) .inl))),qh rfl,qh hk,qh (by rw[A8.o];rfl)⟩
   clear A3
  rotate_left
  focus
   have hq:=λw=>Q2j L.o.1.1 L.o.1.2 L.o.2.1 L.o.2.2 w;have AA:(2==E && B==C)=Bm:=by simp only[Hk,beq_eq_false_iff_ne];omega
   have A8:D (Jq (pM p) (Q5 p k)=(Qg (pM p) B,(wP (Q5 p k),wV (Q5 p k),wX (Q5 p k),((Q26 (pM p) B).getD 0 (0,0),(E,C))::(wL (Q5 p k)).drop 1,wC (Q5 p k)))):=qh (by have B4:(((2:Int),B)==(E,C))=Bm:=AA;unfold Jq;rw[AE.o];simp only[B4];rw[if_pos (by rfl),if_pos hw0]);simp only[AA,He]at hq;have DA:=qh hn;have DB:=qh hw0;obtain⟨pw,cw,Gd,Gw,f4,AC,-,-,-⟩:=g.o.pool.mem.focusW (i:=B) (by omega);have AH:0<(aW (Q7 (mC (pM p)) B)).length:=hw0;obtain⟨bw,ow,rfl,BW⟩:=Rd.elem AC.rd 0 AH;have HZ:D ((Q26 (pM p) B).getD 0 (0,0)=((aW (Q7 (mC (pM p)) B))[0].1,(aW (Q7 (mC (pM p)) B))[0].2)):=qh (by unfold Q26;rw[Ab,Ad AH];rfl);obtain⟨z0,z1,BX,BY⟩:=At.word (t:=(aW (Q7 (mC (pM p)) B))[0].1) (a:=(aW (Q7 (mC (pM p)) B))[0].2) BW;simp only[Ty.sz,Nat.reduceAdd,Db,Cq]at z0 z1;generalize (aW (Q7 (mC (pM p)) B))[0].1=zt at *
   generalize (aW (Q7 (mC (pM p)) B))[0].2=za at *
   have BZ:=qh (And.intro BX BY);obtain⟨_,_,m0,-,-,-,-,-,-,-,-⟩:=g.o.pool.mem.head;have AI:=g.o.pool.mem.cells.bound;unfold maxLen at AI;obtain⟨DC,DD⟩:=AI;have EQ:(0:Int)<(aW (Q7 (mC (pM p)) B)).length:=by omega
   clear hn hw0 AA AC BW BX BY;go_wp2_with fail
   go_quiet(fail)
   refine Qq ?_;intro K A6;have A4:D (Below w.heap.size w K):=qh (by rw[A6];exact Q6 AP.o _);have V:Qcx W2 K:=by rw[A6];exact(Am (Q6 (Ai _ _) _))
   have x0:=V.cell _ _ x0;have x1:=V.cell _ _ x1;have y0:=V.cell _ _ y0;have z:=V.cell _ _ z;have f4:=V.cell _ _ f4;have z0:=V.cell _ _ z0;have z1:=V.cell _ _ z1;have DJ:=(Am A4.o).cell _ _ c3;have DK:=qh (CG.o.focus CI.o 0 hl);obtain⟨b',o',us,Gz,C0,DL,DM,-,-,-,DN,C1,C2,C3,C4⟩:=DK.o;have DO:=qh (Jt (t:=Qu) rfl C3);have DP:=qh DL;simp only[Option.some.injEq,Addr.mk.injEq,and_true]at C0;obtain⟨rfl,rfl⟩:=C0;have ER:=λq=>((Ay (X:=λ_=>False) A4.o).frozen DM (λh=>h) q).trans (C2 q);obtain⟨u0,u1,u2,u3,rfl⟩:=Qif DN;obtain⟨q0,q1,q2,q3⟩:=Qm3 C1;have q0:=(Am A4.o).cell _ _ q0;have q1:=(Am A4.o).cell _ _ q1;have q2:=(Am A4.o).cell _ _ q2;have q3:=(Am A4.o).cell _ _ q3;simp only[Db,Cq]at q0 q1 q2 q3;have DQ:=qh C4;clear A6 V m0 C2 C3 C1 C4;go_wp2_with fail
   go_still_tail 13,(by kernel_rfl)
   go_wp2_with fail
   refine Qq ?_;intro M A3;have C5:D (∃P',Qy w P pb s M (Vt p k (Q7e (Q5 p k) (((zt,za),(E,C))::(wL (Q5 p k)).drop 1))) P'):=qh (by
    rw[A3];have DR:Q1 (λc=>c=G) K ((((K.setCell ⟨G,H,N⟩ (I Z zt)).setCell ⟨G,H+1,N⟩ (I Z za)).setCell ⟨G,H+2,N⟩ (I Z E)).setCell ⟨G,H+3,N⟩ (I Z C)):=Q56 (X:=λc=>c=G) (Q1.refl _ _) rfl _ _ _ _;have C6:Q1 (λc=>c=G) w (((((K.setCell ⟨G,H,N⟩ (I Z zt)).setCell ⟨G,H+1,N⟩ (I Z za)).setCell ⟨G,H+2,N⟩ (I Z E)).setCell ⟨G,H+3,N⟩ (I Z C)).drew):=((Ay A4.o).trans DR).drew
    have DS:Q9 G H 4 w (((((K.setCell ⟨G,H,N⟩ (I Z zt)).setCell ⟨G,H+1,N⟩ (I Z za)).setCell ⟨G,H+2,N⟩ (I Z E)).setCell ⟨G,H+3,N⟩ (I Z C)).drew):=
     ((((((Q9.refl G H 4 w).fr (Ay (X:=λ_=>False) A4.o) (λh=>h)).set H (by omega) _).set (H+1) (by omega) _).set (H+2) (by omega) _).set (H+3) (by omega) _).drew
    have DT:Qqw (((((K.setCell ⟨G,H,N⟩ (I Z zt)).setCell ⟨G,H+1,N⟩ (I Z za)).setCell ⟨G,H+2,N⟩ (I Z E)).setCell ⟨G,H+3,N⟩ (I Z C)).drew) G H [I Z zt,I Z za,I Z E,I Z C]:=λj hj=>Qgc q0 q1 q2 q3 (I Z zt) (I Z za) (I Z E) (I Z C) j hj;have ho:=DQ.o _ [I Z zt,I Z za,I Z E,I Z C] ((zt,za),(E,C)) (C6.mono λc hc=> .inl hc) (by simp only[Db,Cq];exact DS) (by simp only[Db,Cq];exact DT) (by rw[DO.o];exact Ow.link BZ.o.1 BZ.o.2 L.o.2.1 L.o.2.2);have:=CH.o _ ((wL (Q5 p k)).set 0 ((zt,za),(E,C))) (C6.mono λc hc=>hc▸DP.o) ho;rw[show(wL (Q5 p k)).set 0 ((zt,za),(E,C))=((zt,za),(E,C))::(wL (Q5 p k)).drop 1 from by
     have:0<(wL (Q5 p k)).length:=hl;match wL (Q5 p k),this with
     |x::r,_=>rfl]at this
    exact this)
   obtain⟨d,B5⟩:=C5.o;have C7:=qh B5;have DU:D (Z8 M.drew pb s (pM p) d.S):=qh (B5.drew.pool.mem);have x1:=(show M.cell? ⟨w.heap.size,1,N⟩=R (I Z B)by rw[A3];exact Qf (X:=λc=>c=G) (Q56 (X:=λc=>c=G) (Q1.refl _ _) rfl _ _ _ _) x1 (λe=>by omega));clear A3 B5 C5 q0 q1 q2 q3 z0 z1 y0 z f4 DJ x0;go_still_tail 5,(by kernel_rfl)
   go_wp2_with((go_at_call 139;(with_reducible refine(Q7i _ _ _ _ _ DU.o B BE BF).mono ?_);rintro e W5 ⟨rfl,hm,hf,AG⟩;have DV:=qh hm;have AJ:=qh hf;have DW:=qh AG;clear hm hf AG))
   refine bodyPost_ret (v:=.tuple #[]) (by simp[results,results94,go_sem]) rfl ⟨rfl, ?_⟩;have h5:=C7.o.drew.pool.stM DV.o (AJ.o.mono λc hc=>hc.imp id Q19) DW.o (λb U=>(Zf U).elim (λh=>by simp at h) .inl);rw[A8.o,HZ.o];exact⟨_,C7.o.drew.trans AB.o h5⟩
  all_goals
   obtain⟨ES,A7,C8,d3,AK,-,C9,CA,-⟩:=A0.o.pool.focL B3.o;rw[B0.o]at d3 AK;have AD:d.wb=P.wb/\d.wo=P.wo:=⟨A0.o.fresh.1,A0.o.fresh.2.1⟩;obtain⟨AR,AS,rfl,-⟩:=Rd.elem AK.rd 0 hl;have DX:(wL (Q5 p k)).length<=A7:=by obtain⟨_,_,he,h1,_⟩:=J6 AK.rd;simp only[List.cons.injEq,Value.slice.injEq,and_true]at he;omega
   have DY:=qh AK;have CB:=qh CA;have CC:=λq=>A0.o.pool.wks.blk.free q;have AT:=A0.o.pool.wks.blk.lt;rw[AD.1]at CC AT;rw[AD.1,AD.2]at d3;have AU:D (∃u,(if 1=A7 then A (R ⟨AR,AS,N⟩) 0 0 else A (R ⟨AR,AS+4,N⟩) ((wL (Q5 p k)).length-1) (A7-1))=u/\Rd (.slice Qu) M [u] ((wL (Q5 p k)).drop 1)):=qh (by
    by_cases e:1=A7
    ·rw[if_pos e,Gh (by omega)];exact⟨_,rfl,Rd.none1 rfl⟩
    ·rw[if_neg e];exact⟨_,rfl,DY.o.rd.tail hl (by omega)⟩)
   obtain⟨il,DZ,E0,E1,E2⟩:=info_parts Q0q;have AV:=qh AD;have CD:D (¬P.wb∈C8):=qh (λe=>(C9 _ e).2.2.1 AD.1.symm);have ET:1<=(wL (Q5 p k)).length:=hl;have E3:(1:Int)<=(wL (Q5 p k)).length:=by omega
   have EU:(1:Int)<=A7:=by omega
   clear AK CA C9 AD;by_cases e1:1=A7
   ·subst e1
    have CE:D (Rd (.slice Qu) M [A (R ⟨AR,AS,N⟩) 0 0] ((wL (Q5 p k)).drop 1)):=qh (by obtain⟨u,hu,hr⟩:=AU.o;rw[if_pos rfl]at hu;rw[hu];exact hr);have E4:(wL (Q5 p k)).length=1:=by omega
    rw[E4]at d3 E3;clear AU DX;go_wp2_with fail
    go_end0
    refine⟨rfl, ?_⟩;rw[<-World.setCell_alloc_past _ _ _ _ AT];obtain⟨P5,h5⟩:=CB.o (M.alloc (.cells #[] 120)) (R ⟨M.heap.size,0,N⟩) 0 0 [] [] ((Q1.refl _ _).alloc _) ⟨_,rfl,.inl ⟨rfl,rfl,_,rfl,λx hx=>by cases hx;rfl⟩⟩ (by simp) (by simp);rw[AV.o.1,AV.o.2]at h5;rw[AQ.o,Gh (by omega)];exact⟨P5,A0.o.trans AB.o h5⟩
   ·have CE:D (Rd (.slice Qu) M [A (R ⟨AR,AS+4,N⟩) ((wL (Q5 p k)).length-1) (A7-1)] ((wL (Q5 p k)).drop 1)):=qh (by obtain⟨u,hu,hr⟩:=AU.o;rw[if_neg e1]at hu;rw[hu];exact hr)
    have EV:(1:Int)<A7:=by omega
    clear AU;go_wp2_with(at_builtin;refine Qi _ rfl (.tmp 126) (.tmp 131) 97 rfl (t:=Qu) (v:=A (R ⟨M.heap.size,0,N⟩) 0 0) (xs:=[]) (ys:=(wL (Q5 p k)).drop 1) rfl (by decide) M.heap.size 120 il _ 32 underlying97 DZ E0 E1 E2 rfl (by decide) rfl rfl (Vv M _ rfl rfl) (CE.o.kept (Am (by go_grown))) (by simp;omega) (by simp) ?_;intro v5 w5 AW CF;simp only[List.nil_append]at AW;obtain⟨p5,c5,rfl,-,-⟩:=AW.form;have E5:=qh AW;have AJ:=qh (Q1.grown ((Q1.refl (λb=>b∈C8) M).alloc _) CF (λb U=> .inl (by cases U;exact Aj _)));have d5:=(AJ.o.cell AT CD.o (P.wo+k * 5+3)).trans d3;have f5:=λq=>(AJ.o.frozen AT CD.o q).trans (CC q);clear AW CF)
    go_end0
    refine⟨rfl, ?_⟩;obtain⟨F,ho,hn,r⟩:=E5.o.ow rfl;obtain⟨P5,h5⟩:=CB.o w5 p5 _ c5 _ F AJ.o ho hn (λb U=> .inr (r b U).1);rw[AV.o.1,AV.o.2]at h5;simp only[List.length_drop]at h5;rw[AQ.o];exact⟨P5,A0.o.trans AB.o h5⟩
theorem Qk.thru{B w w':Bh}{C S S':MS}{pb po:Nat}{m E:Qqp}{l F:List Nat}(h:Qk B C pb po w m S l)(k:Qk w S pb po w' E S' F):Qk B C pb po w' E S' F:=
 h.step k.mem k.free k.fresh k.fr k.keep
theorem Qpq(w:Bh)(a b c d:Array Value)(T U V X:TypeId):
  ((((w.alloc (.cells a T)).alloc (.cells b U)).alloc (.cells c V)).alloc (.cells d X)).heap[w.heap.size]?=R (.cells a T (0,0))/\
  ((((w.alloc (.cells a T)).alloc (.cells b U)).alloc (.cells c V)).alloc (.cells d X)).heap[w.heap.size+1]?=R (.cells b U (0,0))/\
  ((((w.alloc (.cells a T)).alloc (.cells b U)).alloc (.cells c V)).alloc (.cells d X)).heap[w.heap.size+2]?=R (.cells c V (0,0))/\
  ((((w.alloc (.cells a T)).alloc (.cells b U)).alloc (.cells c V)).alloc (.cells d X)).heap[w.heap.size+3]?=R (.cells d X (0,0)):=by
 obtain⟨E,F⟩:=Jn w a b T U;obtain⟨B,C⟩:=Jn ((w.alloc (.cells a T)).alloc (.cells b U)) c d V X;have e:((w.alloc (.cells a T)).alloc (.cells b U)).heap.size=w.heap.size+2:=by simp
 rw[e]at B C;exact⟨Qw (Qw E),Qw (Qw F),B,C⟩
def Qam(ka kb:Int)(en:Wd)(s:Qqp×Wd)(a b:Wd):Qqp×Wd:=
 if a.1==0 && b.2==0 then(s.1,((1:Int),kb))
 else if a.1==0 then(Qh s.1 kb (b.2-1) en,en)
 else if decide (0<a.2) && decide (0<b.2)then(Qh (Qh (Qv s.1) ka (a.2-1) (2,mF s.1)) kb (b.2-1) (2,mF s.1),s.2)
 else if decide (0<a.2)then(Qh s.1 ka (a.2-1) (1,kb),s.2)
 else if decide (0<b.2)then(Qh s.1 kb (b.2-1) (1,ka),s.2)
 else s
theorem Qfj(n:Qr2):(Yk n).length<=(Qs n).length:=by
 unfold Yk;rw[List.length_map];exact List.length_filter_le _ _
structure Qqg (wo W2:Bh) (S':MS) (pb po:Nat) (v15:Value) (ws:List Qqt) (g:Nat) (a b x y rt:Wd) (W:Bh) (m:Qqp) (S:MS) (l:List Nat):Prop where
 st:Qk wo S' pb po W m S l
 wi:∃F,Ow (.slice Qu) W [v15] ws F/\F.Nodup/\∀c∈F,W2.heap.size<=c/\c∉S.all/\c<g
 root:W.heap[wo.heap.size]?=R (.cells #[I Z rt.1,I Z rt.2] 40 (0,0))
 ba:W.heap[g]?=R (.cells #[I Z a.1,I Z a.2] 185 (0,0))
 bb:W.heap[g+1]?=R (.cells #[I Z b.1,I Z b.2] 185 (0,0))
 bx:W.heap[g+1+1]?=R (.cells #[I Z x.1,I Z x.2] 40 (0,0))
 by_:W.heap[g+1+1+1]?=R (.cells #[I Z y.1,I Z y.2] 40 (0,0))
 sep:wo.heap.size∉S.all/\∀i,i<4->g+i∉S.all
 hg:wo.heap.size<W2.heap.size/\W2.heap.size<=g
section
variable {wo W2 W W':Bh} {S' S:MS} {pb po g:Nat} {v15:Value} {ws:List Qqt} {a b x y rt:Wd} {m:Qqp} {l:List Nat}
theorem Qqg.start{wr:Bh}(h:Qk wo S' pb po wr m S l)(E:Yy Qu W2 S wr v15 ws)(G:wr.heap[wo.heap.size]?=R (.cells #[I Z rt.1,I Z rt.2] 40 (0,0)))(H:wo.heap.size∉S.all)(J:wo.heap.size<W2.heap.size)(K:W2.heap.size<=wr.heap.size):
  Qqg wo W2 S' pb po v15 ws wr.heap.size a b (0,0) (0,0) rt ((((wr.alloc (.cells #[I Z a.1,I Z a.2] 185)).alloc (.cells #[I Z b.1,I Z b.2] 185)).alloc (.cells #[I Z 0,I Z 0] 40)).alloc (.cells #[I Z 0,I Z 0] 40)) m S l:=by
 have C:Below wr.heap.size wr ((((wr.alloc (.cells #[I Z a.1,I Z a.2] 185)).alloc (.cells #[I Z b.1,I Z b.2] 185)).alloc (.cells #[I Z 0,I Z 0] 40)).alloc (.cells #[I Z 0,I Z 0] 40)):=by go_grown
 obtain⟨q0,q1,L,M⟩:=Qpq wr #[I Z a.1,I Z a.2] #[I Z b.1,I Z b.2] #[I Z 0,I Z 0] #[I Z 0,I Z 0] 185 185 40 40;obtain⟨F,o,n,r⟩:=E;have O:=h.mem.lt;refine⟨h.below C,⟨F,o.kept λc B=>C.block c (o.lt c B),n,λc B=>⟨(r c B).1,(r c B).2,o.lt c B⟩⟩, ?_,q0,q1,L,M,⟨H,λi T P=>by have:=O _ (Aa _ P);omega⟩,J,K⟩;rw[C.block _ (by omega)];exact G
theorem Qqg.box(h:Qqg wo W2 S' pb po v15 ws g a b x y rt W m S l){G H J:Wd}(C:Q1 (λc=>c=wo.heap.size\/c=g+1+1\/c=g+1+1+1) W W')
  (T:W'.heap[wo.heap.size]?=R (.cells #[I Z J.1,I Z J.2] 40 (0,0))) (U:W'.heap[g+1+1]?=R (.cells #[I Z G.1,I Z G.2] 40 (0,0))) (V:W'.heap[g+1+1+1]?=R (.cells #[I Z H.1,I Z H.2] 40 (0,0))):
  Qqg wo W2 S' pb po v15 ws g a b G H J W' m S l:=by
 obtain⟨L,⟨F,o,n,r⟩,i,M,O,j,k,⟨P,K⟩,X,Y⟩:=h;have d:=(Al.1 M).1;have f:=(Al.1 O).1;refine⟨L.other C λc E=>⟨λB=> ?_,by omega⟩,⟨F,o.frame C λc E=>⟨o.lt c E,λe=>by have:=r c E;omega⟩,n,r⟩,T, ?_, ?_,U,V,⟨P,K⟩,X,Y⟩
 ·rcases Aq.1 B with e|B
  ·have:=L.pl;omega
  ·rcases E with rfl|rfl|rfl
   ·exact P B
   ·exact K 2 (by omega) B
   ·exact K 3 (by omega) B
 ·rw[C.block _ d (by omega)];exact M
 ·rw[C.block _ f (by omega)];exact O
theorem Qqg.drew(h:Qqg wo W2 S' pb po v15 ws g a b x y rt W m S l):Qqg wo W2 S' pb po v15 ws g a b x y rt W.drew m S l:=
 h.box (Q1.refl _ _).drew h.root h.bx h.by_
theorem Qqg.setX(h:Qqg wo W2 S' pb po v15 ws g a b x y rt W m S l)(t u:Int):Qqg wo W2 S' pb po v15 ws g a b (t,u) y rt ((W.setCell ⟨g+1+1,0,N⟩ (I Z t)).setCell ⟨g+1+1,1,N⟩ (I Z u)) m S l:=by
 have B:Q1 (λc=>c=g+1+1) W ((W.setCell ⟨g+1+1,0,N⟩ (I Z t)).setCell ⟨g+1+1,1,N⟩ (I Z u)):=V1 (X:=λc=>c=_) (Q1.refl _ _) rfl _ _;have E:=h.hg;exact h.box (B.mono λc C=> .inr (.inl C)) ((B.block _ (Al.1 h.root).1 (by omega)).trans h.root) (Vm h.bx _ _) ((B.block _ (Al.1 h.by_).1 (by omega)).trans h.by_)
theorem Qqg.setY(h:Qqg wo W2 S' pb po v15 ws g a b x y rt W m S l)(t u:Int):Qqg wo W2 S' pb po v15 ws g a b x (t,u) rt ((W.setCell ⟨g+1+1+1,0,N⟩ (I Z t)).setCell ⟨g+1+1+1,1,N⟩ (I Z u)) m S l:=by
 have B:Q1 (λc=>c=g+1+1+1) W ((W.setCell ⟨g+1+1+1,0,N⟩ (I Z t)).setCell ⟨g+1+1+1,1,N⟩ (I Z u)):=V1 (X:=λc=>c=_) (Q1.refl _ _) rfl _ _;have E:=h.hg;exact h.box (B.mono λc C=> .inr (.inr C)) ((B.block _ (Al.1 h.root).1 (by omega)).trans h.root) ((B.block _ (Al.1 h.bx).1 (by omega)).trans h.bx) (Vm h.by_ _ _)
theorem Qqg.setR(h:Qqg wo W2 S' pb po v15 ws g a b x y rt W m S l)(t u:Int):Qqg wo W2 S' pb po v15 ws g a b x y (t,u) ((W.setCell ⟨wo.heap.size,0,N⟩ (I Z t)).setCell ⟨wo.heap.size,1,N⟩ (I Z u)) m S l:=by
 have B:Q1 (λc=>c=wo.heap.size) W ((W.setCell ⟨wo.heap.size,0,N⟩ (I Z t)).setCell ⟨wo.heap.size,1,N⟩ (I Z u)):=V1 (X:=λc=>c=_) (Q1.refl _ _) rfl _ _;have E:=h.hg;exact h.box (B.mono λc C=> .inl C) (Vm h.root _ _) ((B.block _ (Al.1 h.bx).1 (by omega)).trans h.bx) ((B.block _ (Al.1 h.by_).1 (by omega)).trans h.by_)
theorem Qqg.mem{K:Qqp}{G:MS}{L:List Nat}{X:Nat->Prop}(h:Qqg wo W2 S' pb po v15 ws g a b x y rt W m S l)(B:Qk wo S' pb po W' K G L)(E:Q1 X W W')(hX:∀c,X c->c=pb\/c∈S.all)(H:∀c∈G.all,c∈S.all):Qqg wo W2 S' pb po v15 ws g a b x y rt W' K G L:=by
 obtain⟨d,⟨F,o,n,r⟩,M,O,P,T,U,⟨V,Y⟩,f,j⟩:=h;have p:=d.pl;have k:∀i,i<4->¬X (g+i):=λi J e=>by
  rcases hX _ e with e|e
  ·omega
  ·exact Y i J e
 refine⟨B,⟨F,o.frame E λc C=>⟨o.lt c C,λe=> ?_⟩,n,λc C=>⟨(r c C).1,λB=>(r c C).2.1 (H c B),(r c C).2.2⟩⟩, ?_, ?_, ?_, ?_, ?_,⟨λB=>V (H _ B),λi J B=>Y i J (H _ B)⟩,f,j⟩
 ·rcases hX c e with e|e
  ·have:=(r c C).1;omega
  ·exact(r c C).2.1 e
 ·rw[E.block _ (Al.1 M).1 (λe=>(hX _ e).elim (λe=>by omega) V)];exact M
 ·rw[E.block _ (Al.1 O).1 (k 0 (by omega))];exact O
 ·rw[E.block _ (Al.1 P).1 (k 1 (by omega))];exact P
 ·rw[E.block _ (Al.1 T).1 (k 2 (by omega))];exact T
 ·rw[E.block _ (Al.1 U).1 (k 3 (by omega))];exact U
theorem Qqg.newv{q:Nat}(h:Qqg wo W2 S' pb po v15 ws g a b x y rt W m S l){C:List Nat}(E:Qk wo S' pb po W' (Qv m) (S.put q []) C)(F:Q1 (λc=>c=pb\/c=S'.cb) W W'):Qqg wo W2 S' pb po v15 ws g a b x y rt W' (Qv m) (S.put q []) C:=
 h.mem E F (λc B=>B.imp id λe=>by rw[e,<-h.st.cb];exact Ae) λc B=>(Zf B).elim (λh=>by simp at h) id
theorem Qqg.word(h:Qqg wo W2 S' pb po v15 ws g a b x y rt W m S l){i:Int}(G:i.toNat<(mC m).length)(H:i.toNat∉l){k:Nat}(J:k<(aW (Q7 (mC m) i)).length):
  ∃(B ow C:Nat),W.cell? ⟨S.cb,S.o+i.toNat * 5+4,N⟩=R (A (R ⟨B,ow,N⟩) (aW (Q7 (mC m) i)).length C)/\(W.cell? ⟨B,ow+k * 2,N⟩=R (I Z ((aW (Q7 (mC m) i)).getD k (0,0)).1)/\W.cell? ⟨B,ow+k * 2+1,N⟩=R (I Z ((aW (Q7 (mC m) i)).getD k (0,0)).2))/\(∀q,W.frozen? ⟨B,q,N⟩=Bm)/\(B∈S.all/\B<W.heap.size)/\(aW (Q7 (mC m) i)).length<=C/\
   ∀t u,Qqm t->Qqm u->Qqg wo W2 S' pb po v15 ws g a b x y rt ((W.setCell ⟨B,ow+k * 2,N⟩ (I Z t)).setCell ⟨B,ow+k * 2+1,N⟩ (I Z u)) (Qa m i ((aW (Q7 (mC m) i)).set k (t,u))) S l:=by
 obtain⟨B,ow,C,K,L,M,E,O,P⟩:=h.st.wordAt G H J;exact⟨B,ow,C,K,L,M,⟨E.1,h.st.mem.lt _ (Aa _ E.1)⟩,O,λt u T U=>h.mem (P t u T U) (V1 (X:=λc=>c=B) (Q1.refl _ _) rfl _ _) (λc F=> .inr (by rw[F];exact E.1)) λc F=>F⟩
theorem Qqg.fin(h:Qqg wo W2 S' pb po v15 ws g a b x y rt W m S l):Yy Qu W2 S W v15 ws:=let ⟨F,o,n,r⟩:=h.wi;⟨F,o,n,λc B=>⟨(r c B).1,(r c B).2.1⟩⟩
theorem Qqg.cells(h:Qqg wo W2 S' pb po v15 ws g a b x y rt W m S l):
  (W.cell? ⟨wo.heap.size,0,N⟩=R (I Z rt.1)/\W.cell? ⟨wo.heap.size,1,N⟩=R (I Z rt.2))/\(W.cell? ⟨g,0,N⟩=R (I Z a.1)/\W.cell? ⟨g,1,N⟩=R (I Z a.2))/\(W.cell? ⟨g+1,0,N⟩=R (I Z b.1)/\W.cell? ⟨g+1,1,N⟩=R (I Z b.2))/\
  (W.cell? ⟨g+1+1,0,N⟩=R (I Z x.1)/\W.cell? ⟨g+1+1,1,N⟩=R (I Z x.2))/\(W.cell? ⟨g+1+1+1,0,N⟩=R (I Z y.1)/\W.cell? ⟨g+1+1+1,1,N⟩=R (I Z y.2)):=
 ⟨⟨Q8 h.root rfl,Q8 h.root rfl⟩,⟨Q8 h.ba rfl,Q8 h.ba rfl⟩,⟨Q8 h.bb rfl,Q8 h.bb rfl⟩,⟨Q8 h.bx rfl,Q8 h.bx rfl⟩,⟨Q8 h.by_ rfl,Q8 h.by_ rfl⟩⟩
theorem Qqg.free(h:Qqg wo W2 S' pb po v15 ws g a b x y rt W m S l):(∀q,W.frozen? ⟨wo.heap.size,q,N⟩=Bm)/\(∀q,W.frozen? ⟨g+1+1,q,N⟩=Bm)/\∀q,W.frozen? ⟨g+1+1+1,q,N⟩=Bm:=
 ⟨λq=>(show Q0f W wo.heap.size 40 from⟨_,h.root⟩).free q,λq=>(show Q0f W (g+1+1) 40 from⟨_,h.bx⟩).free q,λq=>(show Q0f W (g+1+1+1) 40 from⟨_,h.by_⟩).free q⟩
end
end Go.Proofs.YthbpkpnioaniiaaGreat
