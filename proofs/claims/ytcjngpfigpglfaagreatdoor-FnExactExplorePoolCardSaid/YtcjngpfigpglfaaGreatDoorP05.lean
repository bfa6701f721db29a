import Derived.Test.YtcjngpfigpglfaaGreatDoorP04
set_option maxHeartbeats 0
set_option maxRecDepth 100000
set_option linter.all false
namespace Go.Proofs.YtcjngpfigpglfaaGreatDoor
open Go.RowKit Go.Proofs.Tryz
open Go.Value renaming int->I,slice->A
open Go.IntKind renaming i64->Z
open Option renaming none->N,some->R
open OC(oC)
open OR(oR)
open JN(jN)
open Bool renaming false->Bm,true->Bn,and_eq_true->Bi
open Go renaming maxLen->Bu,Calls->Bv,World->Bh,Value->Bk,heap_alloc_new->Bg
open Go.Builtin renaming append->Ft
open Go.Callee renaming builtin->Fp
open Go.Region renaming wanted->Eg
open Go.World renaming cell?_setCell_same->Bx,setCell->Gn
open Int renaming toNat_natCast->Bq
open List renaming length_cons->Br,range->Bz,length_filter_le->Eo,foldl_cons->Cb,not_mem_nil->Cs,range_succ->En,length_append->Bo
theorem Jm.nodup{cs}:∀ {l:List Nat} {p:Int},Jm cs p l->l.Nodup:=by
 intro l p h;have B:=h.chain;have C:=Q7g B;have:∀(l:List Nat) (p:Int),Jm cs p l->V9 cs l p=l:=by
  intro l;induction l with
  |nil=>intro p _;rfl
  |cons a l ih=>intro p ⟨h1,h2,h3,h4⟩;subst h1;simp only[Br,V9,Bq,Q7,List.cons.injEq,true_and];exact ih _ h4
 rwa [this l p h]at C
def Jm.head{cs a l p}(h:Jm cs p (a::l)):p=(a:Int)/\a<cs/\Jm cs (aV (Q9 cs a)) l:=⟨h.1,h.2.1,h.2.2.2⟩
theorem Jm.take{cs a l p}(h:Jm cs p (a::l))(y):Jm (cs.set a y) (aV (Q9 cs a)) l:=
 h.2.2.2.set (Ar.1 h.nodup).1
def Yq(m:Qyb)(l:List Nat):Prop:=Jm (mC m) (mF m) l
theorem Yq.take{m a l}(h:Yq m (a::l))(y):Yq (Qi m y) l/\mF m=(a:Int)/\a<(mC m):=by
 obtain⟨B,C,E⟩:=Jm.head h;refine⟨?_,B,C⟩;have:=Jm.take h y;unfold Yq Qi;simp only[mC,mF]at *
 rw[B,Bq];unfold Q7;rw[Bq];exact this
theorem Yq.put{m l}(h:Yq m l){i}(y)(B:i.toNat∉l):Yq (Qg1 m i y) l:=Jm.set h B
theorem Yq.release{m l}(h:Yq m l){i:Int}(C:0<=i)(E:i<(mC m))(B:i.toNat∉l):Yq (Qd m i) (i.toNat::l):=by
 have:=Jm.release (i:=i.toNat) h B (by omega);unfold Yq Qd;simp only[mC,mF]at *
 rw[show((i.toNat:Nat):Int)=i by omega]at this;exact this
theorem Qg(m y):(mC (Qi m y)).length=(mC m):=by simp[Qi,mC]
theorem Q01(m i){y}:(mC (Qg1 m i y)).length=(mC m):=by simp[Qg1,mC]
theorem Za{m i}:(mC (Qd m i)).length=(mC m):=by simp[Qd,mC]
theorem Q58(m a b):(mC (Ya m a b)).length=(mC m):=rfl
theorem Yr(m y j):Q7 (mC (Qi m y)) j=if(mF m).toNat=j.toNat/\j.toNat<(mC m) then y else Q7 (mC m) j:=by
 unfold Qi Q7;exact Z2
theorem Q39(m i y j):Q7 (mC (Qg1 m i y)) j=if i.toNat=j.toNat/\j.toNat<(mC m) then y else Q7 (mC m) j:=by
 unfold Qg1 Q7;exact Z2
def Z6:Qb:=(13,0,0,[],[])
def Qw(m:Qyb):Qyb:=Qi m Z6
def J4(m:Qyb)(i:Int)(x:Wd):Qyb:=Qa m i (aW (Q7 (mC m) i)++ [x])
def Qm(m:Qyb)(i k:Int)(x:Wd):Qyb:=Qa m i ((aW (Q7 (mC m) i)).set k.toNat x)
def Zq(lx c d:Int)(s:Qyb×List Qy3)(wd:Wd):Qyb×List Qy3:=
 let f:=mF s.1
 let m1:=Qi s.1 (4,lx,0,[],[])
 let u:=mF m1
 let m2:=Qw m1
 let v:=mF m2
 let m3:=Qw m2
 (J4 (J4 (Qa m3 f [(2,u),(2,v)]) c (2,u)) d (2,v),s.2++ [(wd,((1:Int),f))])
def Qa4(m:Qyb)(x y:Qb):Qyb×List Qy3:=
 let c:=mF m
 let m1:=Qi m (aK y,aL y,aV y,aD y,[])
 let d:=mF m1
 let m2:=Qi m1 (aK y,aL y,aV y,aD y,[])
 (aW y).foldl (Zq (aL x) c d) (m2,[((aW x).getD 0 (0,0),((1:Int),c)),((aW x).getD 1 (0,0),((1:Int),d))])
def Ym(s:Qyb×List Qy3)(wd:Wd):Qyb×List Qy3:=(Qi s.1 (5,0,0,[],[]),s.2++ [(wd,((1:Int),mF s.1))])
def Vx(x y:Qb):Int:=if aK y==10 then(aD y).getD (aV x).toNat 0 else if aV x==0 then(aD y).getD 1 0 else(aD y).getD 0 0
def Yy(m:Qyb)(l:Int):Nat->Qyb×List Int
 |0=>(m,[])
 |n+1=>(Qi (Yy m l n).1 (3,l,0,[],[]),(Yy m l n).2++ [mF (Yy m l n).1])
def Q1r(x y:Qb)(apps:List Int)(i:Nat):List Wd:=[(aW x).getD i (0,0),if i+1<apps.length then((1:Int),apps.getD (i+1) 0)else(aW y).getD 0 (0,0)]
def Zr(x y:Qb)(apps:List Int)(m:Qyb)(i:Nat):Qyb:=Qa m (apps.getD i 0) (Q1r x y apps i)
def Jx(m:Qyb)(x y:Qb):Qyb×List Qy3:=
 let c:=mF m
 let m1:=Qi m (12,aL y,Vx x y,[],[])
 let s:=Yy m1 (aL y) (aW x)
 if s.2.length=0 then(s.1,[((aW y).getD 0 (0,0),((1:Int),c))])
 else(Ya ((Bz s.2).foldl (Zr x y s.2) s.1) c (s.2.getD 0 0),[])
def Q30(x:Qb)(l:Int):Qb:=(aK x,(if Zf (aK x)then aL x+l else aL x),aV x,aD x,List.replicate ((aW x).length-1) (0,0))
def Jg(n:Qy0)(l:Int)(m:Qyb):Nat->Qyb
 |0=>m
 |j+1=>Qi (Jg n l m j) (Q30 (Q9 n (j+1)) l)
def Qxs(n:Qy0)(l:Int)(m:Qyb)(j:Nat):List Int:= -1::(Bz j).map λi=>mF (Jg n l m i)
def Yj(at_:List Int)(en:Wd)(s:Qyb×Wd)(w:Qy3):Qyb×Wd:=
 let a:=w.1
 let b:=w.2
 let ca:=at_.getD a.1.toNat 0
 let cb:=at_.getD b.1.toNat 0
 if a.1==0 && b.2==0 then(s.1,((1:Int),cb))
 else if a.1==0 then(Qm s.1 cb (b.2-1) en,en)
 else if decide (0<a.2) && decide (0<b.2)then(Qm (Qm (Qw s.1) ca (a.2-1) (2,mF s.1)) cb (b.2-1) (2,mF s.1),s.2)
 else if decide (0<a.2)then(Qm s.1 ca (a.2-1) (1,cb),s.2)
 else if decide (0<b.2)then(Qm s.1 cb (b.2-1) (1,ca),s.2)
 else s
def V8(n:Qy0)(l:Int)(en:Wd)(m:Qyb):Qyb×Wd:=
 let at_:=Qxs n l m (n.length-1)
 let s:=(Yw n).foldl (Yj at_ en) (Jg n l m (n.length-1),(0,0))
 ((Y5 n).foldl (λm p=>Ya m (at_.getD p.1.toNat 0) (at_.getD p.2.toNat 0)) s.1,s.2)
def V2(bk:List Qy0)(m:Qyb)(x:Qb)(b:Int):Qyb:=
 let s:=V8 (netOf' bk (aV x)) (aL x) (1,b) m
 if s.2.2 !=b then Ya s.1 b s.2.2 else s.1
 where netOf' (bk:List Qy0) (v:Int):Qy0:=bk.getD v.toNat []
def Q40(m:Qyb)(x y:Qb):Qyb×List Qy3:=
 (Qi m (if aK y==8 then(6,0,J6 (aV y) ((aD y).getD 0 0) (aV x),[],[])else(8,aL y,aV y,[aV x],[(aW y).getD 1 (0,0)])),[((aW y).getD 0 (0,0),((1:Int),mF m))])
def Yz(bk:List Qy0)(m:Qyb)(c a b:Int):Qyb×List Qy3:=
 let x:=Q7 (mC m) a
 let y:=Q7 (mC m) b
 let m1:=Qd m a
 if c==7 then(V2 bk m1 x b,[])
 else
  let m2:=Qd m1 b
  if c==1||c==2 then(m2,[((aW x).getD 0 (0,0),(aW y).getD 0 (0,0)),((aW x).getD 1 (0,0),(aW y).getD 1 (0,0))])
  else if c==3 then Qa4 m2 x y
  else if c==4 then(aW y).foldl Ym (m2,[])
  else if c==5 then Q40 m2 x y
  else if c==6 then Jx m2 x y
  else(m2,[])
def Qi9(c:Int)(x y:Qb)(n:Nat):Prop:=
 ((c=1\/c=2)->(aW x).length=2/\(aW y).length=2)/\(c=3->(aW x).length=2/\3 * (aW y).length<=n)/\(c=4->(aW y)<=n+2)/\
 (c=5->(aK y=8->0<(aD y).length/\0<(aW y).length)/\(aK y≠8->2<=(aW y).length))/\
 (c=6->(aW x)<=n+1/\0<(aW y).length/\0<(aD y).length/\(aK y=10->0<=aV x/\aV x<(aD y))/\(aK y≠10->2<=(aD y).length))
theorem Qc7(bk m B a b)(h:B≠7):Yz bk m B a b=(if B==1||B==2 then(Qd (Qd m a) b,[((aW (Q7 (mC m) a)).getD 0 (0,0),(aW (Q7 (mC m) b)).getD 0 (0,0)),((aW (Q7 (mC m) a)).getD 1 (0,0),(aW (Q7 (mC m) b)).getD 1 (0,0))])
  else if B==3 then Qa4 (Qd (Qd m a) b) (Q7 (mC m) a) (Q7 (mC m) b)
  else if B==4 then(aW (Q7 (mC m) b)).foldl Ym (Qd (Qd m a) b,[])
  else if B==5 then Q40 (Qd (Qd m a) b) (Q7 (mC m) a) (Q7 (mC m) b)
  else if B==6 then Jx (Qd (Qd m a) b) (Q7 (mC m) a) (Q7 (mC m) b)
  else(Qd (Qd m a) b,[])):=by
 have:(B==7)=Bm:=by simpa using h
 unfold Yz;simp only[this,Bool.false_eq_true,if_false]
def Qcy{B a b}:Qyn (J6 B a b):=by
 have C:=Q5r (Qxy a+Qxy b);have E:=Q5r (Qxy a-Qxy b);have F:=Q5r (wrap64 (Qxy a * Qxy b));have G:=Q5r (wrap64 ((Qxy a).tdiv (Qxy b)));unfold J6 Q22 Qyn;repeat' split
 all_goals omega
def xM(cs:List Qb)(p:Wd):Qb:=Q7 cs (Zi cs p).1
def yM(cs:List Qb)(p:Wd):Qb:=Q7 cs (Zi cs p).2
def Yc(bk:List Qy0)(v:Int):Qy0:=bk.getD v.toNat []
def Zt(bk:List Qy0)(cs:List Qb)(p:Wd):Int×Int:=
 if Qu cs p==8 then(0,11)
 else if Qu cs p==3 then(2+3 * ((aW (yM cs p)):Int),0)
 else if Qu cs p==4 then(((aW (yM cs p)):Int),0)
 else if Qu cs p==5 then(1,0)
 else if Qu cs p==6 then(1+((aW (xM cs p)):Int),0)
 else if Qu cs p==7 then
  (if(bk:Int)<=aV (xM cs p)then(0,3)
   else if 8<V3 (Yc bk (aV (xM cs p)))+aL (xM cs p)then(0,9)
   else(((Yc bk (aV (xM cs p))):Int)-1+((Zg (Yc bk (aV (xM cs p)))):Int),0))
 else(0,0)
def Qbs(n:Qy0):Prop:=n.length<=1000000/\(Qk n).length<=10000000/\0<=V3 n/\V3 n<=1000
def Q7m{n}(h:Qbs n):(Zg n).length<=10000000:=by
 refine Au ?_ h.2.1;unfold Zg Yw;refine Au (Eo _ _) ?_;rw[List.length_map];exact Eo _ _
theorem Qox{w}(p0 A1)(bk:List Qy0){b o}(m:Qyb)(A2:Rd (.slice Jl) w [A p0 bk A1] bk)(AA:bk<=Bu)(h:At Qq w b o m)(p q)(O:Qyl (mC m) (p,q))(P:(aW (Q7 (mC m) p)).length<=100000000)(S:(aW (Q7 (mC m) q)).length<=100000000)(hx:Qu (mC m) (p,q)=7->0<=aV (xM (mC m) (p,q))/\0<=aL (xM (mC m) (p,q))/\aL (xM (mC m) (p,q))<=1000)(A3:∀n∈bk,Qbs n):
  Bv prog 223 #[A p0 bk A1,(b,o),.agg #[p,q]] w (oR w (.tuple #[I Z (Zt bk (mC m) (p,q)).1,I Z (Zt bk (mC m) (p,q)).2])):=by
 have H:=qh h;have A4:=qh A2;have HP:=qh O;have AM:=qh P;have AN:=qh S;have AB:=qh A3;obtain⟨cs,f,⟨rt,ra⟩,xs⟩:=m;obtain⟨pc,cc,_,_,⟨g,-,-,-,-⟩,-,⟨hc,hm,i⟩,-⟩:=h.mem;have T:Qyl cs (p,q):=O;have A5:Qu cs (p,q)=7->0<=aV (xM cs (p,q))/\0<=aL (xM cs (p,q))/\aL (xM cs (p,q))<=1000:=hx;have j:(aW (Q7 cs p)).length<=100000000:=P;have r:(aW (Q7 cs q)).length<=100000000:=S;have AC:Qyl cs (Zi cs (p,q)):=by
  unfold Zi;split
  ·exact⟨T.2,T.1⟩
  exact T
 have A6:(aW (xM cs (p,q))).length<=100000000/\(aW (yM cs (p,q))).length<=100000000:=by
  unfold xM yM Zi;split
  ·exact⟨r,j⟩
  exact⟨j,r⟩
 have E:Hd (Zt bk cs (p,q)=if Qu cs (p,q)==8 then(0,11)
  else if Qu cs (p,q)==3 then(2+3 * ((aW (yM cs (p,q))):Int),0)
  else if Qu cs (p,q)==4 then(((aW (yM cs (p,q))):Int),0)
  else if Qu cs (p,q)==5 then(1,0)
  else if Qu cs (p,q)==6 then(1+((aW (xM cs (p,q))):Int),0)
  else if Qu cs (p,q)==7 then
   (if(bk:Int)<=aV (xM cs (p,q))then(0,3)
    else if 8<V3 (Yc bk (aV (xM cs (p,q))))+aL (xM cs (p,q))then(0,9)
    else(((Yc bk (aV (xM cs (p,q)))):Int)-1+((Zg (Yc bk (aV (xM cs (p,q))))):Int),0))
  else(0,0)):=by show _=_;rfl
 show Bv _ _ _ _ λe w'=>e=.returned (.tuple #[I Z (Zt bk cs (p,q)).1,I Z (Zt bk cs (p,q)).2])/\_;have HF:Hd (Zi cs (p,q)=((Zi cs (p,q)).1,(Zi cs (p,q)).2)):=by show _=_;rfl
 have U:xM cs (p,q)=Q7 cs (Zi cs (p,q)).1:=rfl;have V:yM cs (p,q)=Q7 cs (Zi cs (p,q)).2:=rfl;have AD:Hd (Qu cs (p,q)=Qu cs (p,q)):=by show _=_;rfl
 have AE:=D (∀w',At Qq w' b o (cs,f,(rt,ra),xs)->Bv prog 226 #[(b,o),.agg #[p,q]] w' λe s=>e=.returned (.tuple #[I Z (Zi cs (p,q)).1,I Z (Zi cs (p,q)).2])/\(w',s)) (λw' t=>Qi3 w' b o _ t p q O);have AF:=D (∀w',At Qq w' b o (cs,f,(rt,ra),xs)->Bv prog 222 #[(b,o),.agg #[p,q]] w' λe s=>e=.returned (Qu cs (p,q))/\(w',s)) (λw' t=>Qha w' b o _ t p q O P S);generalize Zt bk cs (p,q)=CM at *
 generalize Qu cs (p,q)=C at *
 generalize Zi cs (p,q)=F at *
 obtain⟨f1,f2⟩:=F;obtain⟨⟨g0,g1⟩,⟨g2,g3⟩⟩:=AC;simp only at g0 g1 g2 g3 U V;have u:f1.toNat<cs:=by omega
 have z:f2.toNat<cs:=by omega
 rw[Q7,Qy u]at U;rw[Q7,Qy z]at V;generalize xM cs (p,q)=x at *
 generalize yM cs (p,q)=y at *
 obtain⟨b1,o1,rfl,hA⟩:=Rd.elem i f1.toNat u;obtain⟨b2,o2,W,hE⟩:=Rd.elem i f2.toNat z;simp only[Option.some.injEq,Addr.mk.injEq,and_true]at W;obtain⟨rfl,rfl⟩:=W;rw[<-U]at hA;rw[<-V]at hE;clear U V;obtain⟨k,l,v,d,ws⟩:=x;obtain⟨k',l',v',d',AO⟩:=y;simp only[aW,aV,aL]at A5 A6 E;obtain⟨_,_,_,_,⟨-,X,a2,-,a4⟩,⟨-,il,iv⟩,-,-⟩:=hA.agent;obtain⟨_,_,_,_,⟨-,-,-,-,e4⟩,-,-,-⟩:=hE.agent;simp only[Ty.sz,Nat.reduceAdd]at X a2 a4 e4;have iv:=iv.bd;obtain⟨AP,AQ⟩:=A6;have AG:=Ac w _ g;have AH:=Ac w _ X;simp only at AG AH;clear hA hE h A2 O P S hx i T j r HF AD A3 u z;unfold Bu at hm AA;go_enter func223,ntmps223;go_upto_region 1 with fail
 obtain⟨m0,m1,hB⟩:=Qwx w p q 143;have Y:=qh hB;have AR:w.heap.size<(w.alloc (Obj.cells #[p,q] 143)).heap.size:=by rw[Be];omega
 generalize w.alloc (Obj.cells #[p,q] 143)=W1 at *
 clear hB;go_upto_region 5 with(first|(go_at_call 226;refine jR (AE.o _ (H.o.kb Y)) λw1 G=> ?_;have A7:=qh G;have AI:=jC (Q0 Y G) g;have AJ:=jC G m0;have AK:=jC G m1;clear G)|(go_at_call 222;refine jR (AF.o _ (H.o.kb (Q0 Y A7))) λw2 G=> ?_;have B:=D (w,w2) (Q0 (Q0 Y A7) G);clear G))
 have X:=jC B X;have a2:=jC B a2;have a4:=jC B a4;have e4:=jC B e4;clear g m0 m1 AI AJ AK;by_cases q8:C=8
 ·subst q8
  go_wp2_with fail
  go_ret2
  exact⟨by rw[E.o];rfl,B.o⟩
 by_cases q3:C=3
 ·subst q3
  go_wp2_with fail
  go_ret2
  exact⟨by rw[E.o];rfl,B.o⟩
 by_cases q4:C=4
 ·subst q4
  go_wp2_with fail
  go_ret2
  exact⟨by rw[E.o];rfl,B.o⟩
 by_cases q5:C=5
 ·subst q5
  go_wp2_with fail
  go_ret2
  exact⟨by rw[E.o];rfl,B.o⟩
 by_cases q6:C=6
 ·subst q6
  go_wp2_with fail
  go_ret2
  exact⟨by rw[E.o];rfl,B.o⟩
 by_cases q7:C=7
 ·subst q7
  obtain⟨x1,x2,x3⟩:=A5 rfl;by_cases J:(bk:Int)<=v
  ·have tn:decide ((bk:Int)<=v)=Bn:=by simpa using J
   have K:=D (CM=(0,3)) (by rw[E.o];show(if(bk:Int)<=v then _ else _)=_;rw[if_pos J]);go_wp2_with fail
   go_ret2
   exact⟨by rw[K.o];rfl,B.o⟩
  have tn:decide ((bk:Int)<=v)=Bm:=by simpa using J
  have A0:v.toNat<bk:=by omega
  have AS:v<(bk:Int):=by omega
  obtain⟨bb,ob,rfl,hN⟩:=Rd.elem A4 v.toNat A0;have a:=qh (AB.o _ (As A0));have A8:=D (Yc bk v=bk[v.toNat]) (by simp[Yc,List.getD_eq_getElem?_getD,A0]);generalize bk[v.toNat]=n at *
  simp only[Ty.sz,Nat.mul_one]at hN;have L:=qh (hN.kb B);obtain⟨pn,cn,c,-,-,-⟩:=L.o.net;obtain⟨AT,Qyr,Qyf,AU⟩:=a.o;clear hN A4;have W:=Ac w2 _ c;simp only at W;have AV:IntKind.i64.wrap (V3 n+l)=V3 n+l:=IntWalk.i64_in _ (by omega);have AW:=Q7m a.o;by_cases M:8<V3 n+l
  ·have t9:decide (8<V3 n+l)=Bn:=by simpa using M
   have K:=D (CM=(0,9)) (by rw[E.o];show(if(bk:Int)<=v then((0:Int),(3:Int))else if 8<V3 (Yc bk v)+l then(0,9)else(((Yc bk v):Int)-1+((Zg (Yc bk v)):Int),0))=_;rw[if_neg J,A8.o,if_pos M]);clear M J;go_wp2
   go_quiet((go_at_call 236;first|exact Yt (Qxq (Q6y (L.o.drewN _))) (rfl)|exact Yv (Qxq (Q6y (L.o.drewN _))) (rfl)))
   go_wp2;go_ret2
   exact⟨by rw[K.o];rfl,Q8 B _⟩
  have t9:decide (8<V3 n+l)=Bm:=by simpa using M
  have K:=D (CM=(((n.length:Int)-1+((Zg n):Int)),0)) (by rw[E.o];show(if(bk:Int)<=v then((0:Int),(3:Int))else if 8<V3 (Yc bk v)+l then(0,9)else(((Yc bk v):Int)-1+((Zg (Yc bk v)):Int),0))=_;rw[if_neg J,A8.o,if_neg M]);clear M J;go_wp2
  go_quiet((go_at_call 236;first|exact Yt (Qxq (Q6y (L.o.drewN _))) (rfl)|exact Yv (Qxq (Q6y (L.o.drewN _))) (rfl)))
  go_wp2;have AL:=qh (Q8 B nq);have A9:=qh (L.o.drewN nq);generalize w2.drewN nq=w3 at *
  clear L c;obtain⟨pn,cn,c,-,-,-⟩:=A9.o.net;have AX:IntKind.i64.wrap ((n.length:Int)-1)=(n.length:Int)-1:=IntWalk.i64_in _ (by omega);have AY:IntKind.i64.wrap ((n.length:Int)-1+((Zg n).length:Nat))=(n.length:Int)-1+((Zg n).length:Nat):=IntWalk.i64_in _ (by omega);(refine Z9 (λw'=>Below w3 w3 w') (by kernel_rfl) (by kernel_rfl) (Ai _ _).drew ?_;(repeat(first|go_big_quiet_skip|(go_big_quiet_want;apply Exists.intro;refine⟨λw' hC=> ?_, ?_⟩;(focus(have AZ:=jC hC c;go_simp;first|done|with_reducible rfl|(exact(Quq (A9.o.kb hC) a.o.1 a.o.2.1).mono λe w4 ⟨he,hb⟩=>⟨by rw[he],Q0 hC hb⟩)));simp only[Act.put,List.setIfInBounds_toArray,List.set_cons_zero,List.set_cons_succ];go_big_quiet_on)));refine wpQuiet_nil ?_;intro wz hz)
  go_wp2;go_ret2
  exact⟨by rw[K.o];rfl,Q0 AL hz⟩
 have t8:(C==8)=Bm:=by simpa using q8
 have t3:(C==3)=Bm:=by simpa using q3
 have t4:(C==4)=Bm:=by simpa using q4
 have t5:(C==5)=Bm:=by simpa using q5
 have t6:(C==6)=Bm:=by simpa using q6
 have t7:(C==7)=Bm:=by simpa using q7
 have K:=D (CM=(0,0)) (by rw[E.o,t8,t3,t4,t5,t6,t7];rfl);go_wp2_with fail
 go_ret2
 exact⟨by rw[K.o];rfl,B.o⟩
def Qwn(m:Qyb)(xs:List Wd):Qyb:=(mC m,mF m,mR m,xs)
def Q2f(l:Qy3):Qy3:=if l.2.1==2 && (l.1.1 !=2||decide (l.1.2<l.2.2))then(l.2,l.1)else l
def Q32(w:Qxb):Qy3:=(wL w).getD 0 ((0,0),(0,0))
def Q2n(m:Qyb)(i:Int):List Wd:=aW (Q7 (mC m) i)
def Ja(m:Qyb)(w:Qxb):Qyb×Qxb:=
 let a:=(Q2f (Q32 w)).1
 let b:=(Q2f (Q32 w)).2
 if a.1==2 && !(a==b)then
  if 0<(Q2n m a.2).length then(Qd m a.2,(wP w,wV w,wX w,((Q2n m a.2).getD 0 (0,0),b)::(wL w).drop 1,wC w))
  else(Qa m a.2 [b],(wP w,wV w,wX w,(wL w).drop 1,wC w))
 else if a.1==2 then(Qd m a.2,(wP w,wV w,wX w,(wL w).drop 1,wC w))
 else(m,(wP w,wV w,wX w++ [(min a.2 b.2,max a.2 b.2)],(wL w).drop 1,wC w))
def Yg(w:Qxb):Wd:=(wX w).getD ((wX w).length-1) (0,0)
def Q0f(bk:List Qy0)(m:Qyb)(w:Qxb):Int:=
 if(Zt bk (mC m) (Yg w)).2 !=0 then(Zt bk (mC m) (Yg w)).2
 else if decide ((Qx (mC m):Int)+Zk (Qu (mC m) (Yg w))<(Zt bk (mC m) (Yg w)).1)||decide (1000000000<=(wC w).getD (Qu (mC m) (Yg w)-1).toNat 0)then 4 else 0
def Q8p(bk:List Qy0)(m:Qyb)(w:Qxb):Qyb×Qxb:=
 let c:=Qu (mC m) (Yg w)
 let r:=Yz bk m c (Zi (mC m) (Yg w)).1 (Zi (mC m) (Yg w)).2
 (Qwn r.1 [],(wP w,wV w,(wX w).take ((wX w).length-1)++mX r.1,r.2,(wC w).set (c-1).toNat ((wC w).getD (c-1).toNat 0+1)))
def Qjd(p:Ye)(k:Nat):Qxb:=Q3 p (wV (Q3 p k)).toNat
def Q1g(p:Ye)(k:Nat):Bool:= !(wV (Q3 p k)==(k:Int)) && decide (0<(wX (Qjd p k)).length)
def Yx(w:Qxb)(ph:Int):Qxb:=(ph,wV w,wX w,wL w,wC w)
def Q6k(w:Qxb)(v:Int):Qxb:=(wP w,v,wX w,wL w,wC w)
def Yh(w:Qxb)(xs:List Wd):Qxb:=(wP w,wV w,xs,wL w,wC w)
def Yo(bk:List Qy0)(p:Ye)(k:Nat):Int×Ye:=
 let w:=Q3 p k
 let n:Int:=(pW p).length
 if 0<(wL w).length then(0,((Ja (pM p) w).1,(pW p).set k (Ja (pM p) w).2,pA p))
 else if 0<(wX w).length then
  if Q0f bk (pM p) w==0 then(0,((Q8p bk (pM p) w).1,(pW p).set k (Q8p bk (pM p) w).2,pA p))else(Q0f bk (pM p) w,p)
 else if wP w==1 then(0,(pM p,(pW p).set k (Q6k (Yx w 2) (Q0r n k k)),pA p-1))
 else if wP w==3 then
  if Q1g p k then(0,(pM p,((pW p).set k (Yx (Yh w [(wX (Qjd p k)).getD 0 (0,0)]) 1)).set (wV w).toNat (Yh (Qjd p k) ((wX (Qjd p k)).drop 1)),pA p))
  else(0,(pM p,(pW p).set k (Yx w 2),pA p-1))
 else if pA p==0 then(0,(pM p,(pW p).set k (Yx w 4),pA p))
 else if Q1g p k then(0,(pM p,(pW p).set k (Yx w 3),pA p+1))
 else(0,(pM p,(pW p).set k (Q6k w (Q0r n (wV w) k)),pA p))
def Qru(m:Qyb)(held rs:List Wd):Prop:=(1<=(mC m).length/\(mC m).length<=1500)/\rs.length<=(mC m)/\(∀i,i<(mC m).length->Ze (Q9 (mC m) i)=Bn)/\(∀w∈Z8 m++held,Zc (mC m) w=Bn)/\(∀p∈rs,Zn (mC m) p=Bn)/\
  (∀i,i<(mC m).length->Q51 (Q9 (mC m) i) (Jk (Z8 m++held) rs i)=Bn)/\Zo (mC m) (Qx (mC m)) (mF m)=Bn
def Q0y(p:Ye):Prop:=(1<=(pW p).length/\(pW p).length<=4)/\mX (pM p)=[]/\(∀k,k<(pW p).length->Y4 (pW p) (Q3 p k)=Bn)/\(((pW p).countP Qz:Nat):Int)=pA p/\Qru (pM p) (Jd (pW p)) (Qr (pW p))
theorem Qru.of{m held rs}(h:Q14 m held rs=Bn):Qru m held rs:=by
 unfold Q14 at h;simp only[Bi]at h;obtain⟨B,C,J,E,F,K,G⟩:=h;have B:=Qj.1 B;refine⟨by omega,by simpa using C,λi H=> ?_,Bf.1 E,Bf.1 F,λi H=> ?_,G⟩
 ·grind[Qy]
 grind
theorem Q0y.of{p}(h:Jw p=Bn):Q0y p:=by
 unfold Jw at h;simp only[Bi]at h;obtain⟨⟨B,C⟩,G,E,F⟩:=h;have B:=Qj.1 B;refine⟨by omega,by simpa using C,λk H=> ?_,by simpa using E,Qru.of F⟩;grind[Q3]
def Q1c{p}(h:Q0y p):(1<=(pW p).length/\(pW p).length<=4)/\mX (pM p)=[]/\(∀k,k<(pW p).length->Y4 (pW p) (Q3 p k)=Bn)/\(((pW p).countP Qz:Nat):Int)=pA p/\Qru (pM p) (Jd (pW p)) (Qr (pW p)):=h
def Q5y{m held rs}(h:Qru m held rs):(1<=(mC m).length/\(mC m).length<=1500)/\rs.length<=(mC m)/\(∀i,i<(mC m).length->Ze (Q9 (mC m) i)=Bn)/\(∀w∈Z8 m++held,Zc (mC m) w=Bn)/\(∀p∈rs,Zn (mC m) p=Bn)/\
  (∀i,i<(mC m).length->Q51 (Q9 (mC m) i) (Jk (Z8 m++held) rs i)=Bn)/\Zo (mC m) (Qx (mC m)) (mF m)=Bn:=h
def Q2r{c}(h:Ze c=Bn)(C:Y9 (aK c)=Bn):V4 (aK c) (Q03 (aK c) ((aW c)+1))=((aW c):Int)+1/\Zm (aK c) (aL c)=Bn/\Zd (aK c) (aV c) (aD c)=Bn:=by
 have G:=Qj.1 C;unfold Ze at h;rw[if_neg (by simp;omega),if_neg (by simp;omega)]at h;simp only[Yb,Bi]at h;obtain⟨-,⟨⟨H,B⟩,E⟩,F⟩:=h;have B:((aW (Zb c)):Int)=V4 (aK (Zb c)) (Q03 (aK (Zb c)) (aW (Zb c))):=by simpa using B
 have e:(aW (Zb c)).length=(aW c)+1:=by simp[Zb,aW]
 rw[e]at B;refine⟨?_,E,F⟩;grind[Zb,aK]
def Q2t{c}(h:Ze c=Bn)(G:Y9 (aK c)=Bn):
  ((aK c=2\/aK c=3\/aK c=4\/aK c=7)->(aW c).length=2)/\((aK c=8\/aK c=10\/aK c=11)->(aW c).length=1)/\((aK c=5\/aK c=6\/aK c=12)->(aW c).length=0)/\(aW c).length<=3/\(aD c).length<=4/\
   (aK c=8->(aD c).length=1)/\(aK c=10->1<=(aD c).length)/\(aK c=11->(aD c).length=2)/\(aK c=9->0<=aV c)/\(aK c=12->0<=aV c/\aV c<=23)/\(0<=aL c/\aL c<=8):=by
 obtain⟨C,E,B⟩:=Q2r h G;have L:=Qj.1 G;have M:0<=aL c/\aL c<=8:=by
  unfold Zm at E;split at E
  ·exact Qj.1 E
  grind
 have K:aK c=2\/aK c=3\/aK c=4\/aK c=5\/aK c=6\/aK c=7\/aK c=8\/aK c=9\/aK c=10\/aK c=11\/aK c=12:=by omega
 generalize (aW c).length=nw at *
 generalize hnd:(aD c)=d at *
 have F:∀ {n H J:Int},Qxi n H J=Bn->H<=n/\n<=J:=λh=>Qj.1 h;rcases K with e|e|e|e|e|e|e|e|e|e|e<;>rw[e]at C B⊢<;>simp only[V4,Q03,Zd,Q3p,Bi,beq_iff_eq]at C B<;>simp at C B⊢
 case inr.inr.inr.inr.inr.inr.inr.inl=>grind
 all_goals(repeat' (first|apply And.intro|omega|(intro;omega)))
 all_goals(first|omega|(have:=F B.2.1;omega)|(have:=F B.2;omega)|(have:=F B;omega)|(rw[B.1];simp)|(rw[B.2];simp)|simp_all|skip)
def Qn9{X Y}(E:Zm (aK X) (aL X)=Bn)(F:Zm (aK Y) (aL Y)=Bn)(G:aK X≠1)(H:aK Y≠1):
  Q2j (Zb X) (Zb Y)=8\/∃x y,((Vg (aK X) (aL X) (aK Y) (aL Y)=2/\x=Y/\y=X)\/(Vg (aK X) (aL X) (aK Y) (aL Y)≠2/\x=X/\y=Y))/\
   Q2j (Zb X) (Zb Y)=Vl (aK x) (aL x) (aK y) (aL y)/\Vl (aK x) (aL x) (aK y) (aL y)≠0/\(aK x=9->aK y=10->aV x<(aD y).length):=by
 have K:Q66 (aK X) (aL X) (aK Y) (aL Y)=Bn:=by simp[Q66,E,F,G,H]
 have J:Q2j (Zb X) (Zb Y)=Q2j X Y:=rfl;rw[J];unfold Q2j;by_cases B:(aK X==9 && (aK Y==10 && decide (((aD Y):Int)<=aV X)))=Bn
 ·left;rw[if_pos B]
 rw[if_neg B];by_cases C:(aK X==10 && (aK Y==9 && decide (((aD X):Int)<=aV Y)))=Bn
 ·left;rw[if_pos C]
 rw[if_neg C];unfold Jb Vg;grind
def Q4t{ka la kb lb}(h:Vl ka la kb lb≠0):
  (Vl ka la kb lb=1/\ka=2/\kb=3)\/(Vl ka la kb lb=2/\ka=4/\kb=4)\/(Vl ka la kb lb=3/\ka=4)\/(Vl ka la kb lb=4/\ka=5)\/
  (Vl ka la kb lb=5/\ka=6/\(kb=7\/kb=8))\/(Vl ka la kb lb=6/\((ka=6/\kb=11)\/(ka=9/\kb=10)))\/(Vl ka la kb lb=7/\ka=12):=by
 unfold Vl at h⊢;repeat' split
 all_goals simp_all
theorem Q3j(cs p):(Zi cs p=p/\xM cs p=Q7 cs p.1/\yM cs p=Q7 cs p.2)\/(Zi cs p=(p.2,p.1)/\xM cs p=Q7 cs p.2/\yM cs p=Q7 cs p.1):=by
 grind[xM,yM,Zi]
theorem J0{cs p}(h:Zn cs p=Bn):(0<=p.1/\p.1<p.2/\p.2<cs)/\Y9 (aK (Q7 cs p.1))=Bn/\Y9 (aK (Q7 cs p.2))=Bn:=by
 unfold Zn at h;simp only[Bi]at h;grind[Qj]
def Qkn{cs p}(h:Zn cs p=Bn):Qyl cs p:=by
 grind[J0,Qyl]
def Jo{cs w}(h:Zc cs w=Bn):(0<=w.2/\w.2<cs)/\((w.1=1/\Y9 (aK (Q7 cs w.2))=Bn)\/(w.1=2/\aK (Q7 cs w.2)=13)):=by
 unfold Zc at h;simp only[Bi,Bool.or_eq_true,beq_iff_eq]at h;grind[Qj]
def Q5n{cs p}(B:∀i,i<cs.length->Ze (Q9 cs i)=Bn)(h:Zn cs p=Bn):
  Qu cs p=8\/((1<=Qu cs p/\Qu cs p<=7)/\Vl (aK (xM cs p)) (aL (xM cs p)) (aK (yM cs p)) (aL (yM cs p))=Qu cs p/\(aK (xM cs p)=9->aK (yM cs p)=10->aV (xM cs p)<(aD (yM cs p)))):=by
 obtain⟨⟨J,K,L⟩,ka,kb⟩:=J0 h;have E:Ze (Q7 cs p.1)=Bn:=B _ (by omega);have F:Ze (Q7 cs p.2)=Bn:=B _ (by omega);have G:=Q2r E ka;have H:=Q2r F kb;have M:=Qj.1 ka;have O:=Qj.1 kb;rcases Qn9 G.2.1 H.2.1 (by omega) (by omega)with h8|⟨x,y,hxy,he,hne,hv⟩
 ·exact .inl h8
 right;have C:xM cs p=x/\yM cs p=y:=by grind[xM,yM,Zi]
 rw[C.1,C.2];have P:=Q4t hne;refine⟨?_,he.symm,hv⟩;show 1<=Q2j _ _/\Q2j _ _<=7;rw[he];omega
def Qfl{cs p}(bk)(J:∀i,i<cs.length->Ze (Q9 cs i)=Bn)(h:Zn cs p=Bn)(T:(Zt bk cs p).2=0){n:Nat}(U:(Zt bk cs p).1<=n+Zk (Qu cs p)):
  (1<=Qu cs p/\Qu cs p<=7)/\(Qu cs p≠7->Qi9 (Qu cs p) (xM cs p) (yM cs p) n):=by
 obtain⟨⟨q0,q1,V⟩,ka,kb⟩:=J0 h;have W:Ze (Q7 cs p.1)=Bn:=J _ (by omega);have X:Ze (Q7 cs p.2)=Bn:=J _ (by omega);rcases Q5n J h with h8|⟨hr,he,hv⟩
 ·grind[Zt]
 refine⟨hr,λS=> ?_⟩;have G:(Ze (xM cs p)=Bn/\Y9 (aK (xM cs p))=Bn)/\(Ze (yM cs p)=Bn/\Y9 (aK (yM cs p))=Bn):=by
  rcases Q3j cs p with⟨-,K,L⟩|⟨-,K,L⟩<;>rw[K,L]
  ·grind
  grind
 have H:=Q2t G.1.1 G.1.2;have E:=Q2t G.2.1 G.2.2;have M:=Q4t (ka:=aK (xM cs p)) (la:=aL (xM cs p)) (kb:=aK (yM cs p)) (lb:=aL (yM cs p)) (by rw[he];omega);rw[he]at M;rcases M with⟨B,C,F⟩|⟨B,C,F⟩|⟨B,C⟩|⟨B,C⟩|⟨B,C,F⟩|⟨B,C⟩|⟨B,C⟩
 ·rw[B]
  exact⟨λ_=>⟨H.1 (by omega),E.1 (by omega)⟩,λe=>absurd e (by decide),λe=>absurd e (by decide),λe=>absurd e (by decide),λe=>absurd e (by decide)⟩
 ·rw[B]
  exact⟨λ_=>⟨H.1 (by omega),E.1 (by omega)⟩,λe=>absurd e (by decide),λe=>absurd e (by decide),λe=>absurd e (by decide),λe=>absurd e (by decide)⟩
 ·have O:(Zt bk cs p).1=2+3 * ((aW (yM cs p)):Int):=by unfold Zt;rw[B];rfl
  have P:Zk (Qu cs p)=2:=by rw[B];rfl
  rw[B];exact⟨λe=>absurd e (by decide),λ_=>⟨H.1 (by omega),by omega⟩,λe=>absurd e (by decide),λe=>absurd e (by decide),λe=>absurd e (by decide)⟩
 ·have O:(Zt bk cs p).1=((aW (yM cs p)):Int):=by unfold Zt;rw[B];rfl
  have P:Zk (Qu cs p)=2:=by rw[B];rfl
  rw[B];exact⟨λe=>absurd e (by decide),λe=>absurd e (by decide),λ_=>by omega,λe=>absurd e (by decide),λe=>absurd e (by decide)⟩
 ·rw[B]
  exact⟨λe=>absurd e (by decide),λe=>absurd e (by decide),λe=>absurd e (by decide),λ_=>⟨λe=>⟨by have:=E.2.2.2.2.2.1 e;omega,by have:=E.2.1 (.inl e);omega⟩,λe=>by have:=E.1 (by omega);omega⟩,λe=>absurd e (by decide)⟩
 ·have O:(Zt bk cs p).1=1+((aW (xM cs p)):Int):=by unfold Zt;rw[B];rfl
  have P:Zk (Qu cs p)=2:=by rw[B];rfl
  rw[B];refine⟨λe=>absurd e (by decide),λe=>absurd e (by decide),λe=>absurd e (by decide),λe=>absurd e (by decide),λ_=> ?_⟩;rcases C with⟨C,F⟩|⟨C,F⟩
  ·omega
  have Y:=E.2.1 (by omega);have a:=E.2.2.2.2.2.2.1 F;have b:=H.2.2.2.2.2.2.2.2.1 C;have c:=hv C F;omega
 exact absurd B S
theorem Qed{c}(h:Ze c=Bn):(aD c).length<=4/\(aW c).length<=3:=by
 by_cases B:Y9 (aK c)=Bn
 ·have:=Q2t h B;omega
 unfold Ze at h;grind
def Qul{m}(h:Zo (mC m) (Qx (mC m)) (mF m)=Bn):∃l,Yq m l/\l.length=Qx (mC m)/\∀i:Int,aK (Q7 (mC m) i)≠0->i.toNat∉l:=
 ⟨V9 (mC m) (Qx (mC m)) (mF m),Jm.of_chain h,Q31 _ _ _,λi B C=>B (Qbl h C).2⟩
abbrev Qg7(w:Bh)(b o:Nat)(v0 v1 v2 v3 v4:Bk):Bh:=((((w.setCell (b,o) v0).setCell (b,o+1) v1).setCell (b,o+2) v2).setCell (b,o+3) v3).setCell (b,o+4) v4
theorem Qtd(w b o B v1 C E F):Qg7 w b o B v1 C E F=Yu w b o [B,v1,C,E,F]:=rfl
def Zw(w b)(o:Nat)(v):Q1 (λc=>c=b) w (w.setCell (b,o) v):=by grind[Q1.setCell,Q1.refl]
def Q0c(w b o B v1 C E F):Q1 (λc=>c=b) w (Qg7 w b o B v1 C E F):=by grind[Q1y,Q1.refl]
theorem Qy2.put{w g o cur T fr vs}(h:w.heap[g]?=R (.cells cur T fr))(B:o+vs.length<=cur.size):Qy2 (Yu w g o vs) g o vs:=by
 have C:=Jn vs o w cur h;grind[Q4b,Q2k,Q5m]
theorem Qc.put{g:Nat}:∀(vs:List Bk) (o:Nat) (B n:Nat) (a w:Bh),Qc g B n a w->B<=o->o+vs.length<=B+n->Qc g B n a (Yu w g o vs)
 | [],_,_,_,_,_,h,_,_=>h
 |v::r,o,B,n,a,w,h,h1,h2=>by simp only[Br]at h2;exact Qc.put r (o+1) B n a _ (h.set o ⟨h1,by omega⟩ v) (by omega) (by omega)
def Qc.put5(w b o B v1 C E F):Qc b o 5 w (Qg7 w b o B v1 C E F):=Qc.put [B,v1,C,E,F] o o 5 w w (Qc.refl _ _ _ _) (Aj _) (by simp)
theorem Qc.drew{b B n a w}(h:Qc b B n a w):Qc b B n a w.drew:=λc T C=>h c T C
section
variable {w:Bh} {pb po:Nat} {m:Qyb} {S:MS}
def Zh.ne(h:Zh w pb po m S):pb≠S.cb/\S.cb≠pb:=by
 have:=Ar.1 h.nodup;exact⟨λe=>this.1 (e▸Ae),λe=>this.1 (e▸Ae)⟩
theorem Zh.room(h:Zh w pb po m S){i:Int}(B:i.toNat<(mC m)):∃cur T,(w,oC S.cb cur T)/\S.o+i.toNat * 5+5<=cur.size:=by
 obtain⟨cur,T,C,E,F,G,_⟩:=h.cells;grind
def Zh.fr5(h:Zh w pb po m S)(q B v1 C E F):Q1 (λc=>c=pb\/c=S.cb) w (Qg7 w S.cb q B v1 C E F):=by grind[Q1y,Q1.refl]
def Ow.two{t vs x G w'}(C:Ow t w vs x G)(h:Q1 (λc=>c=pb\/c=S.cb) w w')(E:∀b∈G,b∉pb::S.all):Ow t w' vs x G:=
 C.frame h λb B=>⟨C.lt b B,by
  rintro(e|e)
  ·exact E b B (e▸Ae)
  exact E b B (e▸Aa _ Ae)⟩
def Zh.put5(h:Zh w pb po m S){i:Int}(H:i.toNat<(mC m)){B v1 C E F}{y:Qb}{G f}(U:Qyn f)(V:Ow Q4 w [B,v1,C,E,F] y G)(W:G.Nodup)(J:∀b∈G,b∉pb::S.all):
  Zh ((Qg7 w S.cb (S.o+i.toNat * 5) B v1 C E F).setCell (pb,po+1) f) pb po ((mC m).set i.toNat y,f,mR m,mX m) (S.put i G):=by
 obtain⟨K,L⟩:=h.ne;obtain⟨cur,T,X,Y⟩:=h.room H;obtain⟨_,_,_,a,_⟩:=h.head;have f1:=h.fr5 (S.o+i.toNat * 5) B v1 C E F;have M:Q1 (λc=>c=S.cb) w (Qg7 w S.cb (S.o+i.toNat * 5) B v1 C E F):=Q0c _ _ _ _ _ _ _ _;have O:Q1 (λc=>c=pb) (Qg7 w S.cb (S.o+i.toNat * 5) B v1 C E F) ((Qg7 w S.cb (S.o+i.toNat * 5) B v1 C E F).setCell (pb,po+1) f):=Zw _ _ _ _;have P:Q1 (λc=>c=pb\/c=S.cb) w ((Qg7 w S.cb (S.o+i.toNat * 5) B v1 C E F).setCell (pb,po+1) f):=f1.setCell (.inl rfl) _;have j:=h.cells.blk.lt;have k:=f1.size;refine h.turn H (us':=[B,v1,C,E,F]) (P.mono λc d=>d.elim .inl λe=> .inr (.inl e)) ((Qc.put5 w S.cb _ B v1 C E F).fr O L) ((Qy2.put (vs:=[B,v1,C,E,F]) X (by simpa using Y)).frame (by rw[<-Qtd];omega) O L) (V.two P J) W (λb g=> .inr (J b g)) ((Qc.of_frame M K _ _).set (po+1) (by omega) _) ?_ U;refine Bx _ _ _ (?_:World.cell? _ _=R (I Z (mF m)));rw[M.cell h.blk.lt K];exact a
def Zh.putF(h:Zh w pb po m S){f}(H:Qyn f):Zh (w.setCell (pb,po+1) f) pb po (mC m,f,mR m,mX m) S:=by
 have J:=h;have F:=Ar.1 h.nodup;obtain⟨px,cx,C,K,c,L,M,O,G,P⟩:=h;have f1:=Zw w pb (po+1) f;have E:Qc pb (po+1) 1 w (w.setCell (pb,po+1) f):=(Qc.refl _ _ _ _).set (po+1) (by omega) _;refine⟨px,cx,C.keep E, ?_,H,L,M,O.frame f1 λb B e=> ?_,G.frame f1 λb B=>⟨G.lt b B,λe=> ?_⟩,P⟩
 ·obtain⟨T,U⟩:=Qy2.app (v1:=[_]) K
  obtain⟨V,W⟩:=Qy2.app (v1:=[_]) U;have X:=T.keep C E (by simp);have Y:=W.keep C E (by simp);refine Qy2.join (v1:=[_]) X (Qy2.join (v1:=[_]) ?_ Y);intro j a;obtain rfl:j=0:=by simpa using a
  exact Bx _ _ _ (V 0 (by simp))
 ·subst e
  rcases Aq.1 B with B|B
  ·exact J.ne.1 B
  exact F.1 (Aa _ (At0.2 (.inl B)))
 subst e;exact F.1 (Aa _ (At0.2 (.inr B)))
def Zh.putCell(h:Zh w pb po m S){i:Int}(H:i.toNat<(mC m)){B v1 C E F}{y:Qb}{G}(K:Ow Q4 w [B,v1,C,E,F] y G)(L:G.Nodup)(J:∀b∈G,b∉pb::S.all):
  Zh (Qg7 w S.cb (S.o+i.toNat * 5) B v1 C E F) pb po (Qg1 m i y) (S.put i G):=by
 obtain⟨cur,T,M,O⟩:=h.room H;have f1:=Q0c w S.cb (S.o+i.toNat * 5) B v1 C E F;exact h.turnC H (us':=[B,v1,C,E,F]) (f1.mono λc P=> .inl P) (Qc.put5 w S.cb _ B v1 C E F) (Qy2.put (vs:=[B,v1,C,E,F]) M (by simpa using O)) (K.two (f1.mono λ_=> .inr) J) L (λb U=> .inr (J b U))
theorem Zh.drew(h:Zh w pb po m S):Zh w.drew pb po m S:=h.frame (X:=λ_=>False) (Q1.refl _ _).drew (λ_ _ h=>h)
end
def Q1.setNew{X a w}(h:Q1 X a w){p:Addr}(E:a<=p.block)(u):Q1 X a (w.setCell p u):=
 ⟨h.os,h.tape,h.output,by simp[Gn];exact h.size,λb B C=>by rw[Below.heap_setCell _ _ _ _ (λe=>by omega)];exact h.block b B C⟩
theorem Qel{X a w}{b o p:Nat}(h:Q1 X a w)(B:a<=b){C v1}:Q1 X a ((w.setCell (b,o) C).setCell (b,p) v1):=(h.setNew B _).setNew B _
theorem Zh.set2{w pb po m S}(h:Zh w pb po m S){b}{o p:Nat}(C:b∉pb::S.all)(B v1):Zh ((w.setCell (b,o) B).setCell (b,p) v1) pb po m S:=
 h.frame (X:=λc=>c=b) (Vf (X:=λc=>c=b) (Q1.refl _ w) rfl B v1) λc E e=>C (e▸E)
def Q4e(w:Bh)(S S':MS):Prop:=S'.cb=S.cb/\S'.o=S.o/\S'.cap=S.cap/\∀b∈S'.all,b∈S.all\/w<=b
theorem Q4e.refl(w S):Q4e w S S:=⟨rfl,rfl,rfl,λ_ h=> .inl h⟩
theorem Q4e.trans{w w' S S' C}(h:Q4e w S S')(k:Q4e w' S' C)(E:w.heap.size<=w'):Q4e w S C:=
 ⟨k.1.trans h.1,k.2.1.trans h.2.1,k.2.2.1.trans h.2.2.1,λb B=>(k.2.2.2 b B).elim (λB=>h.2.2.2 b B) λB=> .inr (Au E B)⟩
theorem Q4e.put{w:Bh}{S i}{G:List Nat}(B:∀b∈G,b∈S.all\/w<=b):Q4e w S (S.put i G):=
 ⟨rfl,rfl,rfl,λb C=>(Y0 C).elim (λh=>B b h) .inl⟩
def Q3z(xs:List Wd)(m:Qyb):Qyb:=(mC m,mF m,mR m,xs++mX m)
theorem Qfu(xs m y):Qi (Q3z xs m) y=Q3z xs (Qi m y):=rfl
theorem Qvg(xs m i):Qd (Q3z xs m) i=Q3z xs (Qd m i):=rfl
theorem Qcd(xs m a b):Ya (Q3z xs m) a b=Q3z xs (Ya m a b):=by
 simp only[Ya,Q3z,mC,mF,mR,mX,List.append_assoc]
theorem Qby{α:Type}(xs:List Wd){f:Qyb×List Qy3->α->Qyb×List Qy3}(B:∀m o a,f (Q3z xs m,o) a=(Q3z xs (f (m,o) a).1,(f (m,o) a).2)):∀(l:List α) (m:Qyb) (o:List Qy3),l.foldl f (Q3z xs m,o)=(Q3z xs (l.foldl f (m,o)).1,(l.foldl f (m,o)).2)
 | [],_,_=>rfl
 |a::l,m,o=>by rw[Cb,B,Qby xs B l];rfl
theorem Qia{α:Type}(xs:List Wd){f:Qyb×Wd->α->Qyb×Wd}(B:∀m o a,f (Q3z xs m,o) a=(Q3z xs (f (m,o) a).1,(f (m,o) a).2)):∀(l:List α) (m:Qyb) (o:Wd),l.foldl f (Q3z xs m,o)=(Q3z xs (l.foldl f (m,o)).1,(l.foldl f (m,o)).2)
 | [],_,_=>rfl
 |a::l,m,o=>by rw[Cb,B,Qia xs B l];rfl
theorem Qcq{α:Type}(xs:List Wd){f:Qyb->α->Qyb}(B:∀m a,f (Q3z xs m) a=Q3z xs (f m a)):∀(l:List α) (m:Qyb),l.foldl f (Q3z xs m)=Q3z xs (l.foldl f m)
 | [],_=>rfl
 |a::l,m=>by rw[Cb,B,Qcq xs B l];rfl
theorem Qvf(xs m x y):Qa4 (Q3z xs m) x y=(Q3z xs (Qa4 m x y).1,(Qa4 m x y).2):=by
 unfold Qa4;simp only[];rw[Qfu,Qfu,show mF (Q3z xs m)=mF m from rfl,show mF (Q3z xs (Qi m (aK y,aL y,aV y,aD y,[])))=mF (Qi m (aK y,aL y,aV y,aD y,[]))from rfl];exact Qby xs (f:=Zq (aL x) (mF m) (mF (Qi m (aK y,aL y,aV y,aD y,[])))) (λ_ _ _=>rfl) _ _ _
theorem Qur(xs)(ws:List Wd)(m):ws.foldl Ym (Q3z xs m,[])=(Q3z xs (ws.foldl Ym (m,[])).1,(ws.foldl Ym (m,[])).2):=
 Qby xs (f:=Ym) (λ_ _ _=>rfl) _ _ _
theorem Ql4(xs:List Wd)(m:Qyb)(l:Int):∀n,Yy (Q3z xs m) l n=(Q3z xs (Yy m l n).1,(Yy m l n).2)
 |0=>rfl
 |n+1=>by simp only[Yy];rw[Ql4 xs m l n];rfl
theorem Qmg(xs m x y):Jx (Q3z xs m) x y=(Q3z xs (Jx m x y).1,(Jx m x y).2):=by
 unfold Jx;simp only[];rw[Qfu,Ql4];split
 ·rfl
 rw[Qcq xs (f:=Zr x y _) (λ_ _=>rfl),Qcd];rfl
theorem Qss(xs m x y):Q40 (Q3z xs m) x y=(Q3z xs (Q40 m x y).1,(Q40 m x y).2):=rfl
theorem Qfb(xs:List Wd)(n:Qy0)(l:Int)(m:Qyb):∀j,Jg n l (Q3z xs m) j=Q3z xs (Jg n l m j)
 |0=>rfl
 |j+1=>by simp only[Jg];rw[Qfb xs n l m j];rfl
theorem Qwc(xs n l m j):Qxs n l (Q3z xs m) j=Qxs n l m j:=by
 unfold Qxs;simp only[Qfb];rfl
theorem Qt5(xs at_ B m o w):Yj at_ B (Q3z xs m,o) w=(Q3z xs (Yj at_ B (m,o) w).1,(Yj at_ B (m,o) w).2):=by
 unfold Yj;simp only[];repeat' split
 all_goals rfl
theorem Qqh(xs n l B m):V8 n l B (Q3z xs m)=(Q3z xs (V8 n l B m).1,(V8 n l B m).2):=by
 grind[V8,Qwc,Qfb,Qia,Qt5,Qcq,Qcd]
theorem Qm5(xs bk m x b):V2 bk (Q3z xs m) x b=Q3z xs (V2 bk m x b):=by
 grind[V2,Qqh,Qcd]
theorem Qt8(xs bk m c a b):Yz bk (Q3z xs m) c a b=(Q3z xs (Yz bk m c a b).1,(Yz bk m c a b).2):=by
 grind[Yz,Qvg,Qm5,Qvf,Qur,Qss,Qmg,mC,Q3z]
def Q95(w pb B m S)(h:Zh w pb B m S)(i:Int)(M:0<=i)(O:i<(mC m)):
  Bv prog 219 #[(pb,B),i] w λe w'=>e=.returned (.tuple #[])/\Zh w' pb B (Qd m i) (S.put i [])/\Q1 (λc=>c=pb\/c=S.cb) w w'/\Qc pb B 5 w w':=by
 have C:=qh h;obtain⟨px,cx,P,T,-,-,-,G,-,-,-⟩:=h.head;have H:=qh G;have E:i.toNat<(mC m):=by omega
 obtain⟨us,U,J,K⟩:=h.cell E;obtain⟨V,W,X,Y,a,b,rfl,-⟩:=K.agent;obtain⟨d,f,g,j,k⟩:=Q5v J;have F:=h.cells.bound;have l:=λq=>h.blk.free q;have n:=λq=>h.cells.blk.free q;obtain⟨L,o⟩:=h.ne;unfold Bu at F;obtain⟨p,r⟩:=F;have s:=h.blk.lt;have t:=h.cells.blk.lt;go_enter func219,ntmps219;go_wp2_with fail
 go_still_tail 11,(by kernel_rfl)
 go_wp2_with fail
 go_end0
 exact⟨rfl,(C.o.put5 E (by unfold Qyn;omega) (Ow.freeCell H) (by simp) (by simp)).drew,((C.o.fr5 _ _ _ _ _ _).setCell (.inl rfl) _).drew,((Qc.of_frame (Q0c _ _ _ _ _ _ _ _) L B 5).set (B+1) (by omega) _).drew⟩
def Qp2(w pb B m S)(h:Zh w pb B m S)(k l v:Int)(C E F H J K)(y:Qb)(G)(A7:0<=mF m)(hf:mF m<(mC m))(a:Ow Q4 w [k,l,v,A C F H,A E J K] y G)(d:G.Nodup)(g:∀b∈G,b∉pb::S.all):
  Bv prog 243 #[(pb,B),.agg #[k,l,v,A C F H,A E J K]] w λe w'=>e=.returned (mF m)/\Zh w' pb B (Qi m y) (S.put (mF m) G)/\Q1 (λc=>c=pb\/c=S.cb) w w'/\Qc pb B 5 w w':=by
 have j:=qh h;have T:=qh a;have n:=qh d;have U:=qh g;obtain⟨px,cx,p,r,-,-,-,A8,-,-,-⟩:=h.head;have M:(mF m).toNat<(mC m):=by omega
 obtain⟨us,s,O,P⟩:=h.cell M;obtain⟨A9,AA,AB,AC,Gd,Gw,rfl,-,-,-,-,-,t⟩:=P.agent;obtain⟨u,x,z,u3,u4⟩:=Q5v O;have A0:=qh t;have V:=h.cells.bound;have AD:=λq=>h.blk.free q;have A1:=λq=>h.cells.blk.free q;obtain⟨A2,AE⟩:=h.ne;unfold Bu at V;obtain⟨AF,AG⟩:=V;have A3:=h.blk.lt;have A4:=h.cells.blk.lt;go_enter func243,ntmps243;go_upto_region 3 with fail
 have L:=qh ((j.o.putF (f:=aV (Q7 (mC m) (mF m))) A0).kept (Below.alloc (Ai _ _) (Aj _) (.cells #[k,l,v,A C F H,A E J K] 172)));have W:=qh ((Zw w pb (B+1) (aV (Q7 (mC m) (mF m)))).alloc (.cells #[k,l,v,A C F H,A E J K] 172));have A5:=qh (((Qc.refl pb B 5 w).set (B+1) (by omega) (aV (Q7 (mC m) (mF m)))).fr ((Q1.refl (λ_=>False) _).alloc (.cells #[k,l,v,A C F H,A E J K] 172)) (λh=>h));obtain⟨⟨x0,x1,x2,x3,x4⟩,-⟩:=Yf (Q0h w (pb,B+1) (aV (Q7 (mC m) (mF m))) #[k,l,v,A C F H,A E J K] 172);generalize (w.setCell (pb,B+1) (aV (Q7 (mC m) (mF m)))).alloc (.cells #[k,l,v,A C F H,A E J K] 172)=W2 at *
 obtain⟨_,_,X,r,-,-,-,-,-,-,-⟩:=L.o.head;obtain⟨us,s,O,P⟩:=L.o.cell (i:=mF m) M;obtain⟨_,_,_,_,_,_,rfl,-⟩:=P.agent;obtain⟨u,x,z,u3,u4⟩:=Q5v O;have A1:=λq=>L.o.cells.blk.free q;have A3:=L.o.blk.lt;have A4:=L.o.cells.blk.lt;have p:W2.cell? (pb,B)=R (A (R (S.cb,S.o)) (mC m) S.cap):=X;clear X;go_wp2_with fail
 go_still_tail 7,(by kernel_rfl)
 go_wp2
 go_ret;have A6:=T.o.frame W (λb Y=>⟨T.o.lt b Y,λe=>U.o b Y (e▸Ae)⟩);exact⟨rfl,((L.o.putCell (i:=mF m) M A6 n.o U).drew),(W.o.mono λ_=> .inl).trans ((L.o.fr5 _ _ _ _ _ _).drew),(A5.o.fr (Q0c _ _ _ _ _ _ _ _) A2).drew⟩
def Qpm(w pb B m S)(h:Zh w pb B m S)(L:0<=mF m)(M:mF m<(mC m)):
  Bv prog 260 #[(pb,B)] w λe w'=>e=.returned (.agg #[I Z 2,(mF m)])/\Zh w' pb B (Qi m (13,0,0,[],[])) (S.put (mF m) [])/\Q1 (λc=>c=pb\/c=S.cb) w w'/\Qc pb B 5 w w':=by
 have G:Zh (w.alloc (.cells #[(),()] 40)) pb B m S:=h.kept (by go_grown);have O:=qh G;have P:=D (Q1 (λc=>c=pb\/c=S.cb) w (w.alloc (.cells #[(),()] 40))) ((Q1.refl _ _).alloc _);have T:=qh ((Qc.refl pb B 5 w).fr ((Q1.refl (λ_=>False) _).alloc (.cells #[(),()] 40)) (λh=>h));have H:=qh (Bg w (.cells #[(),()] 40));have k:=G.lt;have E:=D (w≠pb/\w≠S.cb/\∀b∈S.all,b≠w.heap.size) (by
  have F:=h.lt;refine⟨λe=> ?_,λe=> ?_,λb U e=> ?_⟩
  ·have:=F pb Ae;omega
  ·have:=F S.cb (Aa _ Ae);omega
  have:=F b (Aa _ U);omega)
 go_enter func260,ntmps260;go_upto_region 1 with fail
 generalize w.alloc (.cells #[(),()] 40)=W2 at *
 go_wp2_with(go_at_call 243;refine(Qp2 W2 pb B m S O 13 0 0 N N 0 0 0 0 (13,0,0,[],[]) [] L M (Ow.mkAgent (by unfold Qyn;omega) (by unfold Qyn;omega) (by unfold Qyn;omega) (Ow.nil _) (Ow.nil _)) (by simp) (by simp)).mono ?_;rintro e l ⟨rfl,F,J,V⟩;have W:=qh F;have Y:=qh J;have a:=qh (T.o.trans V);have K:=(J.block w (Al.1 H).1 (by rintro(e|e);exact E.o.1 e;exact E.o.2.1 e)).trans H;obtain⟨⟨n,o⟩,p⟩:=Zj K;have d:=qh K)
 have f:=Vs d.o (I Z 2) (mF m);obtain⟨⟨g,i⟩,-⟩:=Zj f;refine bodyPost_ret (v:=.agg #[I Z 2,(mF m)]) (by simp[results,results260,go_sem,g,i]) rfl ?_;have j:w.heap.size∉pb::(S.put (mF m) []).all:=by
  intro C;rcases Aq.1 C with e|C
  ·exact E.o.1 e
  rcases Y0 C with C|C
  ·simp at C
  exact E.o.2.2 _ C rfl
 exact⟨rfl,W.o.set2 j _ _,Qel (P.o.trans Y) (Aj _),a.o.fr (Vf (X:=λc=>c=w) (Q1.refl _ _) rfl _ _) (Ne.symm E.o.1)⟩
def Q74{P}(w){e}(C L G i z H)(O:P.underlying C=R (.slice G))(J:P.info? G=R i)(S:i.zero=R z)(T:i.size=e.sz)(U:i.bytes=H)(V:z.cells.size=e.sz)(K:H<=200){v}{xs:List e.den}{y vs F}(g c)(W:Ow (.slice e) w [v] xs F)(X:F.Nodup)(M:Ow e w vs y [])(Y:Qy2 w g 0 vs)(a:∀u∈vs,u.oneCell'=Bn)(d:xs.length+1<=1000000000):
  ∃(p:Option Addr) (E:Nat) (w':Bh) (B:List Nat),(Builtin.append_ #[C,C] L #[v,A (R (g,0)) 1 c]).run P w=.ok (A p (xs+1) E) w'/\Ow (.slice e) w' [A p (xs+1) E] (xs++ [y]) B/\B.Nodup/\(∀b∈B,b∈F\/b=w.heap.size)/\Q1 (λb=>b∈F) w w':=by
 have f:=M.length
 obtain⟨p,E,w',B,k,l,m,n,o⟩:=Q5b (P:=P) w (e:=e) C L G i z H O J S T U V K (xs:=xs) (ys:=[y]) (Gs:=[[]]) W X (g,0) 1 c rfl vs (by rw[f];simp)
  (λj u q=>by
   obtain⟨r,s⟩:=List.getElem?_eq_some_iff.1 q;have:=Y j r;have t:(⟨g,0,N⟩:Addr).add j=⟨g,0+j,N⟩:=by unfold Addr.add;split<;>simp_all
   rw[t,this,s]) a rfl
  (λi J=>by
   obtain rfl:i=0:=by simpa using J
   have:(vs.drop (0 * e.sz)).take e.sz=vs:=by rw[Nat.zero_mul,List.drop_zero,Ao (by omega)]
   rw[this];exact M) (by simp) (by simp) (by omega) d
 exact⟨p,E,w',B,k,l,m,λb K=>(n b K).elim .inl λh=>h.elim (λh=>by simp at h) .inr,o⟩
def Yk{P}(w){H o a K Q E}(J:o.guard=N)(s x C)(L:o.op=Op.call {callee:=Fp Ft,args:=#[s,x],argTypes:=#[C,C]}){e}(eT i z bytes)(ht:P.underlying C=R (.slice eT))(hi:P.info? eT=R i)(hz:i.zero=R z)(hsize:i.size=e.sz)(hby:i.bytes=bytes)(hzs:z.cells.size=e.sz)(hb:bytes<=200){v}{xs:List e.den}{y vs F}(g c)(hv:a.eval s=v)(hu:a.eval x=A (R (g,0)) 1 c)(hown:Ow (.slice e) w [v] xs F)(hF:F.Nodup)(hvs:Ow e w vs y [])(hcells:Qy2 w g 0 vs)(h1:∀u∈vs,u.oneCell'=Bn)(hlen:xs.length+1<=1000000000)(hK:∀p G w' B,Ow (.slice e) w' [A p (xs+1) G] (xs++ [y]) B->B.Nodup->(∀b∈B,b∈F\/b=w.heap.size)->Q1 (λb=>b∈F) w w'->K (a.put o.dst (A p (xs+1) G)) w'):if Eg o (yielded H a.tmps)=Bn then Oper.wp P o a w K Q else E:=by
 have M:Eg o (yielded H a.tmps)=Bn:=by simp[Eg,J]
 rw[if_pos M];obtain⟨p,G,w',B,O,S,T,U,V⟩:=Q74 (P:=P) w C o.type eT i z bytes ht hi hz hsize hby hzs hb g c hown hF hvs hcells h1 hlen;unfold Oper.wp;simp[execOp,L,resolve,invoke,builtin,hv,hu,O,Result.andThen];exact hK p G w' B S T U V
def Q1a{P}(w){G rest o a Q}(H:o.guard=N)(s x C)(J:o.op=Op.call {callee:=Fp Ft,args:=#[s,x],argTypes:=#[C,C]}){e}(eT i z bytes)(ht:P.underlying C=R (.slice eT))(hi:P.info? eT=R i)(hz:i.zero=R z)(hsize:i.size=e.sz)(hby:i.bytes=bytes)(hzs:z.cells.size=e.sz)(hb:bytes<=200){v}{xs:List e.den}{y vs F}(g c)(hv:a.eval s=v)(hu:a.eval x=A (R (g,0)) 1 c)(hown:Ow (.slice e) w [v] xs F)(hF:F.Nodup)(hvs:Ow e w vs y [])(hcells:Qy2 w g 0 vs)(h1:∀u∈vs,u.oneCell'=Bn)(hlen:xs.length+1<=1000000000)(hK:∀p E w' B,Ow (.slice e) w' [A p (xs+1) E] (xs++ [y]) B->B.Nodup->(∀b∈B,b∈F\/b=w.heap.size)->Q1 (λb=>b∈F) w w'->wpList P G Q rest (a.put o.dst (A p (xs+1) E)) w'):wpList P G Q (o::rest) a w:=by
 refine wpList_plain H λK L=> ?_;obtain⟨p,E,w',B,M,O,S,T,U⟩:=Q74 (P:=P) w C o.type eT i z bytes ht hi hz hsize hby hzs hb g c hown hF hvs hcells h1 hlen;unfold Oper.wp;simp[execOp,J,resolve,invoke,builtin,hv,hu,M,Result.andThen];exact L _ _ (hK p E w' B O S T U)
def Qni{a b}:∀u∈ [I Z a,I Z b],u.oneCell'=Bn:=by
 intro u B;simp only[List.mem_cons,Cs,or_false]at B;rcases B with rfl|rfl<;>rfl
def Qmj{a b c d}:∀u∈ [I Z a,I Z b,I Z c,I Z d],u.oneCell'=Bn:=by
 intro u B;simp only[List.mem_cons,Cs,or_false]at B;rcases B with rfl|rfl|rfl|rfl<;>rfl
theorem Ow.word{w a b}(B:Qyn a)(C:Qyn b):Ow Q5 w [a,b] (a,b) []:=⟨[_],[_],[],[],rfl,rfl,⟨rfl,B,rfl⟩,⟨rfl,C,rfl⟩⟩
def Ow.link{w a b c d}(B:Qyn a)(C:Qyn b)(E:Qyn c)(F:Qyn d):Ow Z7 w [a,b,c,d] ((a,b),(c,d)) []:=⟨[_,_],[_,_],[],[],rfl,rfl,Ow.word B C,Ow.word E F⟩
def Q75{P C o a w K Q E}(F:o.guard=N)(f:Nat)(xs G)(J:o.op=Op.call {callee:=Callee.value (Operand.func f),args:=xs,argTypes:=G})(args)(hrun:(execOp a.eval o).run P w=.ok (.enter f args) w){v}(hc:Bv P f args w λe w'=>e=.returned v/\w=w')(hK:K (a.put o.dst v) w):if Eg o (yielded C a.tmps)=Bn then Oper.wp P o a w K Q else E:=by
 have B:Eg o (yielded C a.tmps)=Bn:=by simp[Eg,F]
 rw[if_pos B];unfold Oper.wp;rw[hrun];exact hc.mono λe w' ⟨H,B⟩=>by subst H;subst B;exact hK
def Qp{F:Bh->Prop}{W}(h:∀B,B=W->F B):F W:=h W rfl
theorem Qbi{w g T a}(h:w.heap[g]?=R (.cells #[a] T))(B:Qyn a):Ow (.slice .int) w [A (R (g,0)) 1 1] [a] [g]:=
 ⟨_,rfl,.inr ⟨g,0,1,_,T,[[]],rfl,Aj _,by simp[Bu],h,by simp[Ty.sz],by simp,rfl,λi C=>by
  match i,C with
  |0,_=>exact⟨rfl,B,rfl⟩⟩⟩
def Q5k{w g T a b}(h:w.heap[g]?=R (.cells #[a,b] T))(B:Qyn a)(C:Qyn b):Ow (.slice Q5) w [A (R (g,0)) 1 1] [(a,b)] [g]:=
 ⟨_,rfl,.inr ⟨g,0,1,_,T,[[]],rfl,Aj _,by simp[Bu],h,by simp[Ty.sz],by simp,rfl,λi E=>by
  match i,E with
  |0,_=>exact Ow.word B C⟩⟩
def Q34{V g H J K L M O}(P:V.heap[g]?=R (.cells #[J,K,L,M,O] H)){B v1 C E F a b T U}:
  ((((((((V.setCell (g,0) B).setCell (g,1) v1).setCell (g,2) C).setCell (g,3) E).setCell (g,4) F).alloc (.cells a T)).alloc (.cells b U)).drew).heap[V.heap.size]?=R (.cells a T (0,0))/\
  ((((((((V.setCell (g,0) B).setCell (g,1) v1).setCell (g,2) C).setCell (g,3) E).setCell (g,4) F).alloc (.cells a T)).alloc (.cells b U)).drew).heap[V.heap.size+1]?=R (.cells b U (0,0))/\
  ((((((((V.setCell (g,0) B).setCell (g,1) v1).setCell (g,2) C).setCell (g,3) E).setCell (g,4) F).alloc (.cells a T)).alloc (.cells b U)).drew).heap[g]?=R (.cells #[B,v1,C,E,F] H)/\
  Q1 (λc=>c=g) V ((((((((V.setCell (g,0) B).setCell (g,1) v1).setCell (g,2) C).setCell (g,3) E).setCell (g,4) F).alloc (.cells a T)).alloc (.cells b U)).drew):=by
 have S:=Q2u P B v1 C E F;have Y:=Q1y (X:=λc=>c=g) (Q1.refl _ V) (o:=0) (p:=1) (q:=2) (r:=3) (s:=4) rfl B v1 C E F;have d:(((((V.setCell (g,0) B).setCell (g,1) v1).setCell (g,2) C).setCell (g,3) E).setCell (g,4) F).heap.size=V:=by simp[Gn]
 generalize ((((V.setCell (g,0) B).setCell (g,1) v1).setCell (g,2) C).setCell (g,3) E).setCell (g,4) F=W at *
 have G:=Jt W a b T U;rw[d]at G;exact⟨G.1,G.2,Z3 (Z3 S),((Y.alloc _).alloc _).drew⟩
def Q0w{P}(w){H rest o a Q}(K:o.guard=N)(s x E)(L:o.op=Op.call {callee:=Fp Ft,args:=#[s,x],argTypes:=#[E,E]}){t}(hf:t.flat=Bn)(hs0:0<t.sz)(B e i z bytes)(ht:P.underlying E=R (.slice e))(hi:P.info? e=R i)(hz:i.zero=R z)(hsize:i.size=t.sz)(hby:i.bytes=bytes)(hzs:z.cells.size=t.sz)(G:bytes<=100){v xs}(y vs)(hv:a.eval s=v)(hu:a.eval x=A (R (w,0)) 1 1)(hown:Qxu t e B w v xs)(hfit:Q55 t y)(hcur:vs.toList=Qa9 t [y])(hlen:xs.length+1<=1000000000)(hB:B<=w)(hK:∀F w',Qxu t e B w' F (xs++ [y])->Below B w w'->(∀b,b<w.heap.size->v.ownBlock≠R b->w'.heap[b]?=w.heap[b]?)->wpList P H Q rest (a.put o.dst F) w'):wpList P H Q (o::rest) a (w.alloc (.cells vs e)):=by
 have C:Below w w (w.alloc (.cells vs e)):=(Ai _ _).alloc (Aj _) _;have M:Rd (.slice t) (w.alloc (.cells vs e)) [A (R (w,0)) 1 1] [y]:=(Qxu.of_block (t:=t) (xs:=[y]) (B:=0) (Bg w _) (Ak _) hf hcur (Q29 hfit) (by simp[Bu])).rd hf;refine Ql (w.alloc (.cells vs e)) K s x E L hf hs0 B e i z bytes ht hi hz hsize hby hzs G hv hu (hown.kept C) M (by simpa using hlen) (by simp;omega) ?_;intro F w' O J;refine hK F w' O ((hown.kept C).grew (C.mono hB) (Au hB C.size) J) λb G S=> ?_;rw[J.block b (by simp;omega) (λe=>S e.symm),C.block b G]
def Q1i{P}(w){F rest o a Q}(G:Eg o (yielded F a.tmps)=Bn)(s x C)(H:o.op=Op.call {callee:=Fp Ft,args:=#[s,x],argTypes:=#[C,C]}){t}(hf:t.flat=Bn)(hs0:0<t.sz)(B)(e:TypeId)(i:TypeInfo)(z:Bk)(bytes:Nat)(ht:P.underlying C=R (.slice e))(hi:P.info? e=R i)(hz:i.zero=R z)(hsize:i.size=t.sz)(hby:i.bytes=bytes)(hzs:z.cells.size=t.sz)(hb:bytes<=100){v u:Bk}{xs ys:List t.den}(hv:a.eval s=v)(hu:a.eval x=u)(hown:Qxu t e B w v xs)(hrd:Rd (.slice t) w [u] ys)(hlen:xs.length+ys.length<=1000000000)(hB:B<=w)(hK:∀E w',Qxu t e B w' E (xs++ys)->w.grownBy w' v.ownBlock->wpList P F Q rest (a.put o.dst E) w'):wpList P F Q (o::rest) a w:=by
 refine wpList_step λK J=> ?_;rw[if_pos G];obtain⟨E,w',L,M,O⟩:=Q4f (P:=P) w hf hs0 B C o.type e i z bytes ht hi hz hsize hby hzs hb hown hrd hlen hB;unfold Oper.wp;simp[execOp,H,resolve,invoke,builtin,hv,hu,L,Result.andThen];exact J _ _ (hK E w' M O)
def Q0m(n:List Qb)(j q:Nat):List Wd:=(Bz j).flatMap (Q0k n)++(Q0k n j).take q
def Qh2(n):Q0m n 0 0=[]:=by simp[Q0m]
def Qga{n j}{q:Nat}(h:q<(aW (Q9 n j))):Q0m n j (q+1)=Q0m n j q++ [((j:Int),(q:Int))]:=by
 grind[Q0m,List.take_succ_eq_append_getElem,Q0k]
def Qgu{n j}{q:Nat}(h:(aW (Q9 n j))<=q):Q0m n (j+1) 0=Q0m n j q:=by
 grind[Q0m,En,List.take_of_length_le,Vc]
theorem Qj4(n):Q0m n n 0=Qk n:=by unfold Q0m Qk;simp
def Qjy{n:List Qb}{j q:Nat}(B:j<n):(Q0m n j q).length<=(Qk n):=by
 unfold Q0m;have C:(Bz n)=Bz (j+1)++(Bz n).drop (j+1):=by have:=List.take_append_drop (j+1) (Bz n);grind
 grind[Qk,En]
theorem Qxu.nil{t e B w}:Qxu t e B w (A N 0 0) []:=⟨⟨by simp[Qa9],.inl ⟨rfl,rfl⟩⟩,Q55.nil⟩
def Zh.redexes{w pb B m S}(h:Zh w pb B m S):∃(px:Option Addr) (cx:Nat),(w,pb,B+4,A px (mX m) cx)/\Ow (.slice Q5) w [A px (mX m) cx] (mX m) S.Fx:=by
 obtain⟨px,cx,_,_,_,_,C,_,_,_,E⟩:=h.head;exact⟨px,cx,C,E⟩
def Qrv(w pb C m S)(h:Zh w pb C m S)(a b)(ha:Qyn a)(B:Qyn b)(M:(mX m).length<=1000000):
  Bv prog 241 #[.pointer (R ⟨pb,C,N⟩),I Z a,I Z b] w λe w'=>e=.returned (.tuple #[])/\∃Fx,Zh w' pb C (Ya m a b) {S with Fx:=Fx}/\(∀b∈Fx,b∈S.Fx\/w<=b)/\Q1 (λc=>c=pb\/c∈S.Fx) w w'/\Qc pb C 5 w w':=by
 have O:=qh h;obtain⟨px,cx,i,P⟩:=h.redexes;have T:=qh P;have j:=qh M;have k:=D (S.Fx.Nodup) ((Qxw (Ar.1 (Ar.1 h.nodup).2).2).2.1);have H:=D (pb∉S.Fx) (λe=>(Ar.1 h.nodup).1 (Aa _ (At0.2 (.inr e))));have l:=λq=>h.blk.free q;have U:=h.blk.lt;clear h P M;obtain⟨n,o,p,r,s⟩:=info_parts Jj;go_enter func241,ntmps241;go_wp2_with fail
 go_region_law(first|(refine Q75 rfl 220 #[.tmp 11,.tmp 12] #[2,2] rfl #[I Z a,I Z b] (by kernel_rfl) (Qu3) ?_)|(refine Q75 rfl 221 #[.tmp 14,.tmp 15] #[2,2] rfl #[I Z a,I Z b] (by kernel_rfl) (Qpe) ?_)|(refine Yk _ rfl (.tmp 10) (.tmp 18) 41 rfl (e:=Q5) 143 n _ 16 underlying41 o p r s rfl (by decide) (v:=A px (mX m) cx) (xs:=mX m) (y:=(min a b,max a b)) (vs:=[I Z (min a b),I Z (max a b)]) (F:=S.Fx) w 1 rfl rfl (T.o.kept λb B=>Az _ _ _ (T.o.lt b B)) k.o (Ow.word (by unfold Qyn at *;omega) (by unfold Qyn at *;omega)) (Q76 (Q6 (Bg w.drew _) rfl) (Q6 (Bg w.drew _) rfl)) Qni (by have:=j.o;omega) ?_;intro V W w2 J X Y d f;have g:=qh X;have t:=qh Y;have u:=qh d;have G:=qh (Q1.trans (show Q1 (λc=>c∈S.Fx) w _ by first|exact((Q1.refl _ w).drew).alloc _|exact((Q1.refl _ w).alloc _).drew) f);have x:=(G.o.cell U H (C+4)).trans i;have xf:=λq=>(G.o.frozen U H q).trans (l q);clear X Y d f))
 all_goals
  go_wp2_with fail
  go_end0
  have K:∀b∈J,b∈S.Fx\/w<=b:=λb B=>(u.o b B).imp id λe=>by rw[e];simp
  have z:=O.o.lt;have A0:∀b∈J,b≠pb:=λb B e=>(K b B).elim (λh=>H.o (e▸h)) λh=>by omega
  have L:=Zw w2 pb (C+4) (A V ((mX m)+1) W);refine⟨rfl,J,(O.o.turnX (xs:=mX m++ [(min a b,max a b)]) (px:=V) (cx:=W) (Fx:=J) ((G.o.mono λc E=> .inr E).trans (L.mono λc E=> .inl E)) ((Qc.of_frame G H _ _).set (C+4) (by omega) _) ?_ ?_ t.o λb B=> ?_),λb B=> ?_,(G.o.mono λc E=> .inr E).trans (L.mono λc E=> .inl E),(Qc.of_frame G H C 5).set (C+4) (by omega) _⟩
  ·rw[Bo];exact Bx _ _ _ x
  ·have:=g.o.frame L λb B=>⟨g.o.lt b B,A0 b B⟩
   rw[Bo];exact this
  ·refine(K b B).imp id λh hm=> ?_
   have:=z b hm;omega
  exact K b B
def Q5p(t:Ty)(w:Bh)(b o:Nat)(x:t.den)(G:List Nat):Prop:=∃us,us.length=t.sz/\Qy2 w b o us/\Ow t w us x G/\b<w
def Q5p.at{t w b o x G}(h:Q5p t w b o x G):At t w b o x:=let ⟨us,h1,h2,h3,_⟩:=h;⟨us,h1,h2,h3.rd⟩
theorem Q5p.lt{t w b o x G}(h:Q5p t w b o x G):∀c∈b::G,c<w.heap.size:=by
 obtain⟨us,F,H,C,E⟩:=h;intro c B;rcases Aq.1 B with rfl|B
 ·exact E
 exact C.lt c B
theorem Q5p.frame{t w w' b o x G X}(h:Q5p t w b o x G)(k:Q1 X w w')(hX:∀c∈b::G,¬X c):Q5p t w' b o x G:=by
 have E:=h.lt;obtain⟨us,F,H,J,B⟩:=h;exact⟨us,F,H.frame B k (hX b Ae),J.frame k λc C=>⟨E c (Aa _ C),hX c (Aa _ C)⟩,Ap B k.size⟩
def Qao(G:List Nat)(pb:Nat)(S:MS):Prop:=∀b∈G,b∉pb::S.all
def Q20{c}{S:MS}(e:c=S.cb):c∈S.all:=by rw[e];exact Ae
structure Qn (w0:Bh) (S0:MS) (pb po:Nat) (w:Bh) (m:Qyb) (S:MS) (l:List Nat):Prop where
 mem:Zh w pb po m S
 free:Yq m l
 fresh:Q4e w0 S0 S
 fr:Q1 (λc=>c=pb\/c∈S0.all) w0 w
 pl:pb<w0.heap.size
 keep:Qc pb po 5 w0 w
theorem Qn.start{w pb po m S l}(h:Zh w pb po m S)(B:Yq m l):Qn w S pb po w m S l:=
 ⟨h,B,Q4e.refl _ _,Q1.refl _ _,h.blk.lt,Qc.refl _ _ _ _⟩
section
variable {w0 w w':Bh} {S0 S S':MS} {pb po:Nat} {m m':Qyb} {l l':List Nat}
theorem Qn.size(h:Qn w0 S0 pb po w m S l):w0.heap.size<=w:=h.fr.size
theorem Qn.cb(h:Qn w0 S0 pb po w m S l):S.cb=S0.cb:=h.fresh.1
theorem Qn.step(h:Qn w0 S0 pb po w m S l)(E:Zh w' pb po m' S')(F:Yq m' l')(G:Q4e w S S')(B:Q1 (λc=>c=pb\/c∈S.all) w w')(H:Qc pb po 5 w w'):Qn w0 S0 pb po w' m' S' l':=by
 refine⟨E,F,h.fresh.trans G h.fr.size,⟨B.os.trans h.fr.os,B.tape.trans h.fr.tape,B.output.trans h.fr.output,Au h.fr.size B.size,λb C hX=> ?_⟩,h.pl,h.keep.trans H⟩;rw[B.block b (Ap C h.fr.size) (λJ=>hX ?_)]
 ·exact h.fr.block b C hX
 rcases J with e|e
 ·exact .inl e
 rcases h.fresh.2.2.2 b e with e|e
 ·exact .inr e
 omega
theorem Qn.other{Y}(h:Qn w0 S0 pb po w m S l)(B:Q1 Y w w')(E:∀c,Y c->c∉pb::S.all/\w0<=c):Qn w0 S0 pb po w' m S l:=
 ⟨h.mem.frame B λb C F=>(E b F).1 C,h.free,h.fresh,⟨B.os.trans h.fr.os,B.tape.trans h.fr.tape,B.output.trans h.fr.output,Au h.fr.size B.size,λb C hX=>by rw[B.block b (Ap C h.fr.size) (λF=>by have:=(E b F).2;omega)];exact h.fr.block b C hX⟩,h.pl,h.keep.fr B λe=>(E pb e).1 Ae⟩
theorem Qn.below(h:Qn w0 S0 pb po w m S l)(B:Below w w w'):Qn w0 S0 pb po w' m S l:=h.other (Y:=λ_=>False) (Ay B) (λ_ h=>h.elim)
theorem Qn.drew(h:Qn w0 S0 pb po w m S l):Qn w0 S0 pb po w.drew m S l:=h.other (Y:=λ_=>False) (Q1.refl _ _).drew (λ_ h=>h.elim)
theorem Qn.cell{b:Nat}(h:Qn w0 S0 pb po w m S l)(B:b<w0)(C:b∉pb::S0.all)(q:Nat):w.cell? (b,q)=w0.cell? (b,q):=
 h.fr.cell B (λe=>C (e.elim (λe=>e▸Ae) λe=>Aa _ e)) q
theorem Qn.first{a}(h:Qn w0 S0 pb po w m S (a::l))(y):mF m=(a:Int)/\a<(mC m)/\Yq (Qi m y) l:=let ⟨h1,h2,h3⟩:=h.free.take y;⟨h2,h3,h1⟩
end
def Q6h{w0 w S0 S pb po a m l}(h:Qn w0 S0 pb po w m S (a::l))(k C v:Int)(E F H J K L)(y:Qb)(G)(P:Ow Q4 w [k,C,v,A E H J,A F K L] y G)(T:G.Nodup)(U:∀b∈G,b∉pb::S.all)(V:∀b∈G,w0<=b):
  Bv prog 243 #[(pb,po),.agg #[k,C,v,A E H J,A F K L]] w λe w'=>e=.returned a/\Qn w0 S0 pb po w' (Qi m y) (S.put a G) l/\Q1 (λc=>c=pb\/c=S0.cb) w w':=by
 obtain⟨W,f,X⟩:=h.first y;refine(Qp2 w pb po m S h.mem k C v E F H J K L y G (by omega) (by omega) P T U).mono ?_;rintro e w' ⟨rfl,O,M,Y⟩;rw[W]at O⊢;rw[h.cb]at M;refine⟨rfl,⟨O,X,⟨h.fresh.1,h.fresh.2.1,h.fresh.2.2.1,λb B=> ?_⟩, ?_,h.pl,h.keep.trans Y⟩,M⟩
 ·rcases Y0 B with B|B
  ·exact .inr (V b B)
  exact h.fresh.2.2.2 b B
 exact h.fr.trans (M.mono λc d=>d.imp id Q20)
def Qbu{w0 w S0 S pb po a m l}(h:Qn w0 S0 pb po w m S (a::l)):
  Bv prog 260 #[(pb,po)] w λe w'=>e=.returned (.agg #[I Z 2,a])/\Qn w0 S0 pb po w' (Qw m) (S.put a []) l/\Q1 (λc=>c=pb\/c=S0.cb) w w':=by
 obtain⟨F,K,G⟩:=h.first Z6;refine(Qpm w pb po m S h.mem (by omega) (by omega)).mono ?_;rintro e w' ⟨rfl,E,C,H⟩;rw[F]at E⊢;rw[h.cb]at C;refine⟨rfl,⟨E,G,⟨h.fresh.1,h.fresh.2.1,h.fresh.2.2.1,λb B=> ?_⟩, ?_,h.pl,h.keep.trans H⟩,C⟩
 ·rcases Y0 B with B|B
  ·simp at B
  exact h.fresh.2.2.2 b B
 exact h.fr.trans (C.mono λc J=>J.imp id Q20)
def Q9r{w0 w S0 S pb po m l}(h:Qn w0 S0 pb po w m S l)(i:Int)(E:0<=i)(F:i<(mC m))(G:i.toNat∉l):
  Bv prog 219 #[(pb,po),i] w λe w'=>e=.returned (.tuple #[])/\Qn w0 S0 pb po w' (Qd m i) (S.put i []) (i.toNat::l)/\Q1 (λc=>c=pb\/c=S0.cb) w w':=by
 refine(Q95 w pb po m S h.mem i E F).mono ?_;rintro e w' ⟨rfl,H,C,J⟩;rw[h.cb]at C;refine⟨rfl,⟨H,h.free.release E F G,⟨h.fresh.1,h.fresh.2.1,h.fresh.2.2.1,λb B=> ?_⟩, ?_,h.pl,h.keep.trans J⟩,C⟩
 ·rcases Y0 B with B|B
  ·simp at B
  exact h.fresh.2.2.2 b B
 exact h.fr.trans (C.mono λc K=>K.imp id Q20)
def Qd5{m a b l}(h:Yq m l):Yq (Ya m a b) l:=h
def Qfz{w0 w:Bh}{S0 S:MS}{pb po:Nat}{m:Qyb}{l:List Nat}(h:Qn w0 S0 pb po w m S l)(a b:Int)(F:Qyn a)(G:Qyn b)(H:(mX m).length<=1000000):
  Bv prog 241 #[(pb,po),a,b] w λe w'=>e=.returned (.tuple #[])/\∃S',Qn w0 S0 pb po w' (Ya m a b) S' l/\Q4e w S S'/\Q1 (λc=>c=pb\/c∈S.Fx) w w':=by
 refine(Qrv w pb po m S h.mem a b F G H).mono ?_;rintro e w' ⟨rfl,Fx,J,K,C,L⟩;have E:Q4e w S {S with Fx:=Fx}:=⟨rfl,rfl,rfl,λc B=>by
  unfold MS.all at B⊢;simp only[List.mem_cons,List.mem_append]at B⊢;rcases B with B|B|B
  ·exact .inl (.inl B)
  ·exact .inl (.inr (.inl B))
  exact(K c B).imp (λh=> .inr (.inr h)) id⟩
 refine⟨rfl, {S with Fx:=Fx},h.step J (Qd5 h.free) E (C.mono λc B=>B.imp id λe=> ?_) L,E,C⟩;unfold MS.all;simp only[List.mem_cons,List.mem_append];exact .inr (.inr e)
end Go.Proofs.YtcjngpfigpglfaaGreatDoor
