import Derived.Test.YthbpkpnioaniiaaGreatP16
set_option maxHeartbeats 40000000
set_option maxRecDepth 100000
set_option linter.all false
namespace Go.Proofs.YthbpkpnioaniiaaGreat
open Go.RowKit Go.Proofs.Tryz
open Go.Value renaming int->I,slice->A
open Go.IntKind renaming i64->Z
open Option renaming none->N,some->R
open Int renaming toNat_natCast->By
open List renaming set_set->Gi,set_eq_of_length_le->Ic,set_comm->Ul,range->Bz,length_cons->Bs,length_append->Bo,range_succ->Ea,foldl_append->De,append_nil->Co,drop_eq_getElem_cons->Ee,getElem?_append_right->Em,getElem?_append_left->Gn
open Nat renaming sub_self->Gp,not_lt_zero->Da
open Ne renaming symm->Ie
theorem Qf1(m:Qqp)(i:Int)(ws:List Wd):(mC (Qa m i ws)).length=(mC m).length:=Q0o _ _ _
theorem Q42(m:Qqp)(i:Int)(a b:List Wd):Qa (Qa m i a) i b=Qa m i b:=by
 unfold Qa Qf0;simp only[mC,mF,mR,mX];by_cases h:i.toNat<m.1.length
 ·have:Q7 (m.1.set i.toNat (aK (Q7 m.1 i),aL (Q7 m.1 i),aV (Q7 m.1 i),aD (Q7 m.1 i),a)) i=(aK (Q7 m.1 i),aL (Q7 m.1 i),aV (Q7 m.1 i),aD (Q7 m.1 i),a):=by
   unfold Q7;rw[Q30,if_pos ⟨rfl,h⟩]
  rw[this,Gi];rfl
 ·have e:∀y,m.1.set i.toNat y=m.1:=λy=>Ic (by omega)
  simp only[e]
theorem Q48(m:Qqp)(i:Int)(ws:List Wd)(h:i.toNat<(mC m).length):aW (Q7 (mC (Qa m i ws)) i)=ws:=by
 unfold Qa;rw[Q2e,if_pos ⟨rfl,h⟩];rfl
theorem Q5a(m:Qqp)(i j:Int)(ws:List Wd)(h:i.toNat≠j.toNat):Q7 (mC (Qa m i ws)) j=Q7 (mC m) j:=by
 unfold Qa;rw[Q2e,if_neg (λe=>h e.1)]
theorem Q66(m:Qqp)(i j:Int)(a b:List Wd)(h:i.toNat≠j.toNat):Qa (Qa m i a) j b=Qa (Qa m j b) i a:=by
 have B:=Q5a m i j a h;have C:=Q5a m j i b (Ie h);unfold Qa at *
 rw[B,C];unfold Qf0;simp only[mC,mF,mR,mX];rw[Ul _ _ (by exact h)]
theorem Q2v(m:Qqp)(i:Int)(ws:List Wd)(y:Qb)(h:i.toNat≠(mF m).toNat):Qj (Qa m i ws) y=Qa (Qj m y) i ws:=by
 have B:Q7 (mC (Qj m y)) i=Q7 (mC m) i:=by rw[Y8,if_neg (λe=>h e.1.symm)]
 have C:Q7 (mC (Qa m i ws)) (mF m)=Q7 (mC m) (mF m):=Q5a m i (mF m) ws h;unfold Qa at *
 rw[B];unfold Qj Qf0 at *
 simp only[mC,mF,mR,mX]at *
 rw[C,Ul _ _ (by exact h)]
theorem Qcc(m:Qqp)(k l v:Int)(d:List Int)(a b:List Wd):Qa (Qj m (k,l,v,d,a)) (mF m) b=Qj m (k,l,v,d,b):=by
 by_cases h:(mF m).toNat<(mC m).length
 ·unfold Qa
  rw[Y8,if_pos ⟨rfl,h⟩];unfold Qj Qf0;simp only[mC,mF,mR,mX,Gi];rfl
 ·have B:∀y,(mC m).set (mF m).toNat y=mC m:=λy=>Ic (by omega)
  unfold Qa Qj Qf0;simp only[mC,mF,mR,mX]at *
  rw[B,B,B]
theorem Qq6(m:Qqp)(i:Int)(ws:List Wd):mF (Qa m i ws)=mF m:=rfl
def Vu(ws:List Wd)(lx c d:Int)(s:Qqp×List Qqt)(i:Nat):Qqp×List Qqt:=
 let f:=mF s.1
 let m1:=Qj s.1 (4,lx,0,[],[(0,0),(0,0)])
 let u:=mF m1
 let m2:=Qv m1
 let v:=mF m2
 let m3:=Qv m2
 (Qh (Qh (Qa m3 f [(2,u),(2,v)]) c i (2,u)) d i (2,v),s.2++ [(ws.getD i (0,0),((1:Int),f))])
def Jj(n:Nat):List Wd:=List.replicate n (0,0)
def Qns(m:Qqp)(x y:Qb):Qqp×List Qqt:=
 let c:=mF m
 let m1:=Qj m (aK y,aL y,aV y,aD y,Jj (aW y).length)
 let d:=mF m1
 let m2:=Qj m1 (aK y,aL y,aV y,aD y,Jj (aW y).length)
 (Bz (aW y).length).foldl (Vu (aW y) (aL x) c d) (m2,[((aW x).getD 0 (0,0),((1:Int),c)),((aW x).getD 1 (0,0),((1:Int),d))])
def Qal(k:Nat)(c d:Int)(m:Qqp):Qqp:=Qa (Qa m c (aW (Q7 (mC m) c)++Jj k)) d (aW (Q7 (mC m) d)++Jj k)
theorem Qlg(a:List Wd)(k:Nat)(u:Wd):(a++Jj (k+1)).set a.length u=(a++ [u])++Jj k:=by
 unfold Jj;rw[List.set_append_right _ _ (Aj _),Gp,List.replicate_succ,List.set_cons_zero];simp
structure Qgr (n j:Nat) (c d:Int) (m:Qqp) (l:List Nat):Prop where
 free:Yf m l
 len:3 * (n-j)<=l.length
 cd:c.toNat≠d.toNat
 cl:c.toNat<(mC m).length
 dl:d.toNat<(mC m).length
 cn:c.toNat∉l
 dn:d.toNat∉l
 cw:(aW (Q7 (mC m) c)).length=j
 dw:(aW (Q7 (mC m) d)).length=j
theorem Qkh{n j:Nat}{c d:Int}{m:Qqp}{l:List Nat}(h:Qgr n j c d m l)(hj:j<n)(ws:List Wd)(B:Int)(o:List Qqt)(F:Wd)(hw:ws.getD j (0,0)=F):
  Vu ws B c d (Qal (n-j) c d m,o) j=(Qal (n-(j+1)) c d (Yr B c d (m,o) F).1,(Yr B c d (m,o) F).2)/\∃C,Qgr n (j+1) c d (Yr B c d (m,o) F).1 C:=by
 obtain⟨p,A0,E,A6,A7,G,H,q,r⟩:=h;obtain⟨J,L,P,C,rfl⟩:∃J L P C,l=J::L::P::C:=by
  match l,(show 3<=l.length by omega)with
  |J::L::P::C,_=>exact⟨J,L,P,C,rfl⟩
 have S:=Jw.nodup p;simp only[List.mem_cons,not_or,List.nodup_cons]at G H S;obtain⟨f1,O,b1⟩:=p.take (4,B,0,[],[]);obtain⟨f2,Y,b2⟩:=f1.take Z5;obtain⟨f3,a,b3⟩:=f2.take Z5;have s:n-j=(n-(j+1))+1:=by omega
 have T:c.toNat≠(mF m).toNat:=by rw[O];simp;exact G.1
 have U:d.toNat≠(mF m).toNat:=by rw[O];simp;exact H.1
 have t:c.toNat≠(mF (Qj m (4,B,0,[],[]))).toNat:=by rw[Y];simp;exact G.2.1
 have w:d.toNat≠(mF (Qj m (4,B,0,[],[]))).toNat:=by rw[Y];simp;exact H.2.1
 have x:c.toNat≠(mF (Qj (Qj m (4,B,0,[],[])) Z5)).toNat:=by rw[a];simp;exact G.2.2.1
 have y:d.toNat≠(mF (Qj (Qj m (4,B,0,[],[])) Z5)).toNat:=by rw[a];simp;exact H.2.2.1
 have A1:(mF m).toNat≠(mF (Qj m (4,B,0,[],[]))).toNat:=by rw[O,Y];simp;exact S.1.1
 have A2:(mF m).toNat≠(mF (Qj (Qj m (4,B,0,[],[])) Z5)).toNat:=by rw[O,a];simp;exact S.1.2.1
 have z:∀V,mF V=mF m->Qj V (4,B,0,[],[(0,0),(0,0)])=Qa (Qj V (4,B,0,[],[])) (mF m) [(0,0),(0,0)]:=λV e=>by rw[<-e,Qcc]
 have b:Qj (Qal (n-j) c d m) (4,B,0,[],[(0,0),(0,0)])=Qa (Qa (Qa (Qj m (4,B,0,[],[])) c (aW (Q7 (mC m) c)++Jj (n-j))) d (aW (Q7 (mC m) d)++Jj (n-j))) (mF m) [(0,0),(0,0)]:=by rw[z (Qal (n-j) c d m) rfl];unfold Qal;rw[Q2v _ d _ _ (by exact U),Q2v _ c _ _ T]
 have g:Qv (Qj (Qal (n-j) c d m) (4,B,0,[],[(0,0),(0,0)]))=Qa (Qa (Qa (Qv (Qj m (4,B,0,[],[]))) c (aW (Q7 (mC m) c)++Jj (n-j))) d (aW (Q7 (mC m) d)++Jj (n-j))) (mF m) [(0,0),(0,0)]:=by rw[b];unfold Qv;rw[Q2v _ (mF m) _ _ (by exact A1),Q2v _ d _ _ (by exact w),Q2v _ c _ _ t]
 have t3:Qv (Qv (Qj (Qal (n-j) c d m) (4,B,0,[],[(0,0),(0,0)])))=Qa (Qa (Qa (Qv (Qv (Qj m (4,B,0,[],[])))) c (aW (Q7 (mC m) c)++Jj (n-j))) d (aW (Q7 (mC m) d)++Jj (n-j))) (mF m) [(0,0),(0,0)]:=by rw[g];unfold Qv;rw[Q2v _ (mF m) _ _ (by exact A2),Q2v _ d _ _ (by exact y),Q2v _ c _ _ x]
 have A3:(mC (Qv (Qv (Qj m (4,B,0,[],[]))))).length=(mC m).length:=by unfold Qv;rw[Qd,Qd,Qd]
 have k:∀i:Int,i.toNat≠(mF m).toNat->i.toNat≠(mF (Qj m (4,B,0,[],[]))).toNat->i.toNat≠(mF (Qj (Qj m (4,B,0,[],[])) Z5)).toNat->Q7 (mC (Qv (Qv (Qj m (4,B,0,[],[]))))) i=Q7 (mC m) i:=λi h1 h2 h3=>by unfold Qv;rw[Y8,if_neg (λe=>h3 e.1.symm),Y8,if_neg (λe=>h2 e.1.symm),Y8,if_neg (λe=>h1 e.1.symm)]
 have gc:=k c T t x;have gd:=k d U w y
 have t4:Qa (Qv (Qv (Qj (Qal (n-j) c d m) (4,B,0,[],[(0,0),(0,0)])))) (mF m) [(2,mF (Qj m (4,B,0,[],[]))),(2,mF (Qv (Qj m (4,B,0,[],[]))))]=
   Qa (Qa (Qa (Qv (Qv (Qj m (4,B,0,[],[])))) (mF m) [(2,mF (Qj m (4,B,0,[],[]))),(2,mF (Qv (Qj m (4,B,0,[],[]))))]) c (aW (Q7 (mC m) c)++Jj (n-j))) d (aW (Q7 (mC m) d)++Jj (n-j)):=by
  rw[t3,Q42,Q66 _ d (mF m) _ _ U,Q66 _ c (mF m) _ _ T]
 have u1:mF (Qj (Qal (n-j) c d m) (4,B,0,[],[(0,0),(0,0)]))=mF (Qj m (4,B,0,[],[])):=by rw[b];rfl
 have u2:mF (Qv (Qj (Qal (n-j) c d m) (4,B,0,[],[(0,0),(0,0)])))=mF (Qv (Qj m (4,B,0,[],[]))):=by rw[g];rfl
 have hS:Yr B c d (m,o) F=(Vb (Vb (Qa (Qv (Qv (Qj m (4,B,0,[],[])))) (mF m) [(2,mF (Qj m (4,B,0,[],[]))),(2,mF (Qv (Qj m (4,B,0,[],[]))))]) c (2,mF (Qj m (4,B,0,[],[])))) d (2,mF (Qv (Qj m (4,B,0,[],[])))),o++ [(F,((1:Int),mF m))]):=rfl;have hI:Vu ws B c d (Qal (n-j) c d m,o) j=(Qh (Qh (Qa (Qv (Qv (Qj (Qal (n-j) c d m) (4,B,0,[],[(0,0),(0,0)])))) (mF m) [(2,mF (Qj (Qal (n-j) c d m) (4,B,0,[],[(0,0),(0,0)]))),(2,mF (Qv (Qj (Qal (n-j) c d m) (4,B,0,[],[(0,0),(0,0)]))))]) c j (2,mF (Qj (Qal (n-j) c d m) (4,B,0,[],[(0,0),(0,0)])))) d j (2,mF (Qv (Qj (Qal (n-j) c d m) (4,B,0,[],[(0,0),(0,0)])))),o++ [(ws.getD j (0,0),((1:Int),mF m))]):=rfl;rw[hI,hS,u1,u2,t4,hw];have A4:Yf (Qv (Qv (Qj m (4,B,0,[],[])))) C:=f3;clear hI hS u1 u2 b g t3 t4 z k f1 f2 f3;generalize mF (Qv (Qj m (4,B,0,[],[])))=v at *
 generalize mF (Qj m (4,B,0,[],[]))=u at *
 generalize Qv (Qv (Qj m (4,B,0,[],[])))=M at *
 generalize hf0:mF m=f at *
 have kc:Q7 (mC (Qa M f [(2,u),(2,v)])) c=Q7 (mC m) c:=by rw[Q5a _ _ _ _ (Ie T),gc]
 have kd:Q7 (mC (Qa M f [(2,u),(2,v)])) d=Q7 (mC m) d:=by rw[Q5a _ _ _ _ (Ie U),gd]
 have kl:(mC (Qa M f [(2,u),(2,v)])).length=(mC m).length:=by rw[Qf1,A3]
 have A5:f.toNat∉C:=by rw[O];simp;exact S.1.2.2
 have kf:Yf (Qa M f [(2,u),(2,v)]) C:=A4.put _ A5;generalize Qa M f [(2,u),(2,v)]=K at *
 have W:c.toNat<(mC K).length:=by omega
 have X:d.toNat<(mC K).length:=by omega
 refine⟨?_,C, ?_⟩
 ·simp only[Prod.mk.injEq,and_true]
  have J:Qh (Qa (Qa K c (aW (Q7 (mC m) c)++Jj (n-j))) d (aW (Q7 (mC m) d)++Jj (n-j))) c j (2,u)=Qa (Qa K c ((aW (Q7 (mC m) c)++ [(2,u)])++Jj (n-(j+1)))) d (aW (Q7 (mC m) d)++Jj (n-j)):=by unfold Qh;rw[Q5a _ d c _ (Ie E),Q48 _ _ _ W,Q66 _ d c _ _ (Ie E),Q42];rw[show((j:Nat):Int).toNat=(aW (Q7 (mC m) c)).length by rw[q];simp,s,Qlg]
  rw[J];have L:Qh (Qa (Qa K c ((aW (Q7 (mC m) c)++ [(2,u)])++Jj (n-(j+1)))) d (aW (Q7 (mC m) d)++Jj (n-j))) d j (2,v)=Qa (Qa K c ((aW (Q7 (mC m) c)++ [(2,u)])++Jj (n-(j+1)))) d ((aW (Q7 (mC m) d)++ [(2,v)])++Jj (n-(j+1))):=by unfold Qh;rw[Q48 _ _ _ (by rw[Qf1];exact X),Q42];rw[show((j:Nat):Int).toNat=(aW (Q7 (mC m) d)).length by rw[r];simp,s,Qlg]
  rw[L];unfold Qal Vb;rw[Q48 _ d _ (by rw[Qf1];exact X),Q5a _ d c _ (Ie E),Q48 _ c _ W,Q5a _ c d _ E,kc,kd];rw[Q66 _ d c _ _ (Ie E),Q42,Q42]
 ·unfold Vb
  refine⟨(kf.put _ G.2.2.2).put _ H.2.2.2,by simp only[Bs]at A0;omega,E,by rw[Qf1,Qf1];exact W,by rw[Qf1,Qf1];exact X,G.2.2.2,H.2.2.2, ?_, ?_⟩
  ·rw[Q5a _ d c _ (Ie E),Q48 _ c _ W,kc,Bo,q];rfl
  ·rw[Q48 _ d _ (by rw[Qf1];exact X),Q5a _ c d _ E,kd,Bo,r];rfl
theorem Qol{m:Qqp}{l:List Nat}(h:Yf m l)(x y:Qb)(U:2+3 * (aW y).length<=l.length):Qns m x y=Qd0 m x y:=by
 obtain⟨E,F,C,rfl⟩:∃E F C,l=E::F::C:=by
  match l,(show 2<=l.length by omega)with
  |E::F::C,_=>exact⟨E,F,C,rfl⟩
 have G:=Jw.nodup h;simp only[List.mem_cons,not_or,List.nodup_cons]at G;obtain⟨f1,H,O⟩:=h.take (aK y,aL y,aV y,aD y,[]);obtain⟨f2,J,P⟩:=f1.take (aK y,aL y,aV y,aD y,[]);have V:Qj m (aK y,aL y,aV y,aD y,Jj (aW y).length)=Qa (Qj m (aK y,aL y,aV y,aD y,[])) (mF m) (Jj (aW y).length):=(Qcc _ _ _ _ _ _ _).symm;have W:mF (Qj m (aK y,aL y,aV y,aD y,Jj (aW y).length))=mF (Qj m (aK y,aL y,aV y,aD y,[])):=rfl;have K:(mF m).toNat≠(mF (Qj m (aK y,aL y,aV y,aD y,[]))).toNat:=by rw[H,J];simp;exact G.1.1
 have w1:Q7 (mC (Qj (Qj m (aK y,aL y,aV y,aD y,[])) (aK y,aL y,aV y,aD y,[]))) (mF m)=(aK y,aL y,aV y,aD y,[]):=by rw[Y8,if_neg (λe=>K e.1.symm),Y8,if_pos ⟨rfl,by rw[H];simpa using O⟩]
 have w2:Q7 (mC (Qj (Qj m (aK y,aL y,aV y,aD y,[])) (aK y,aL y,aV y,aD y,[]))) (mF (Qj m (aK y,aL y,aV y,aD y,[])))=(aK y,aL y,aV y,aD y,[]):=by rw[Y8,if_pos ⟨rfl,by rw[J];simpa using P⟩]
 have X:Qj (Qj m (aK y,aL y,aV y,aD y,Jj (aW y).length)) (aK y,aL y,aV y,aD y,Jj (aW y).length)=Qal (aW y).length (mF m) (mF (Qj m (aK y,aL y,aV y,aD y,[]))) (Qj (Qj m (aK y,aL y,aV y,aD y,[])) (aK y,aL y,aV y,aD y,[])):=by unfold Qal;rw[w1,w2];show _=Qa (Qa _ _ (Jj _)) _ (Jj _);rw[Q66 _ _ _ _ _ K,Qcc,V,Q2v _ _ _ _ (by exact K)]
 unfold Qns Qd0;simp only[];rw[W,X];have Y:Qgr (aW y).length 0 (mF m) (mF (Qj m (aK y,aL y,aV y,aD y,[]))) (Qj (Qj m (aK y,aL y,aV y,aD y,[])) (aK y,aL y,aV y,aD y,[])) C:=by refine⟨f2,by simp only[Bs]at U;omega,K,by rw[Qd,Qd,H];simpa using O,by rw[Qd,J];simpa using P,by rw[H];simp;exact G.1.2,by rw[J];simp;exact G.2.1,by rw[w1];rfl,by rw[w2];rfl⟩
 generalize Qj (Qj m (aK y,aL y,aV y,aD y,[])) (aK y,aL y,aV y,aD y,[])=M at *
 generalize mF (Qj m (aK y,aL y,aV y,aD y,[]))=d at *
 generalize mF m=c at *
 generalize [((aW x).getD 0 (0,0),((1:Int),c)),((aW x).getD 1 (0,0),((1:Int),d))]=o;have a:∀j,j<=(aW y).length->(Bz j).foldl (Vu (aW y) (aL x) c d) (Qal (aW y).length c d M,o)=(Qal ((aW y).length-j) c d (((aW y).take j).foldl (Yr (aL x) c d) (M,o)).1,(((aW y).take j).foldl (Yr (aL x) c d) (M,o)).2)/\∃C,Qgr (aW y).length j c d (((aW y).take j).foldl (Yr (aL x) c d) (M,o)).1 C:=by
  intro j;induction j with
  |zero=>intro _;exact⟨rfl,_,Y⟩
  |succ j ih=>intro k;obtain⟨b,l2,f⟩:=ih (by omega);rw[Ea,De,b,An (by omega),De];exact Qkh f (by omega) _ _ _ _ (by rw[Ab,Ad (by omega)];rfl)
 obtain⟨g,l2,L⟩:=a _ (Aj _);rw[g,Ao (Aj _),Gp];rw[Ao (Aj _)]at L;generalize (aW y).foldl (Yr (aL x) c d) (M,o)=B at *
 have S:∀i,i.toNat<(mC B.1).length->Qa B.1 i (aW (Q7 (mC B.1) i))=B.1:=λi T=>by
  unfold Qa Qf0;show((mC B.1).set i.toNat (Q7 (mC B.1) i),mF B.1,mR B.1,mX B.1)=B.1;have:(mC B.1).set i.toNat (Q7 (mC B.1) i)=mC B.1:=by unfold Q7 Qn;rw[Ab,Ad T];exact List.set_getElem_self T
  rw[this];rfl
 show(Qa (Qa B.1 c (_++ [])) d (_++ []),B.2)=B;rw[Co,Co,S c L.cl,S d L.dl]
def Q15(m:Qqp)(l:Int)(xs:List Wd)(y0:Wd):Nat->Qqp×List Int
 |0=>(m,[])
 |n+1=>(Qj (Q15 m l xs y0 n).1 (3,l,0,[],[xs.getD n (0,0),y0]),(Q15 m l xs y0 n).2++ [mF (Q15 m l xs y0 n).1])
def Q4o(apps:List Int)(m:Qqp)(i:Nat):Qqp:=Qh m (apps.getD i 0) 1 (1,apps.getD (i+1) 0)
def Q3j(m:Qqp)(x y:Qb):Qqp×List Qqt:=
 let c:=mF m
 let m1:=Qj m (12,aL y,Q12 x y,[],[])
 if(aW x).length=0 then(m1,[((aW y).getD 0 (0,0),((1:Int),c))])
 else
  let s:=Q15 m1 (aL y) (aW x) ((aW y).getD 0 (0,0)) (aW x).length
  (Yu ((Bz ((aW x).length-1)).foldl (Q4o s.2) s.1) c (s.2.getD 0 0),[])
def Q1g(ap:List Int)(g:Nat->List Wd)(m:Qqp)(n:Nat):Qqp:=(Bz n).foldl (λm i=>Qa m (ap.getD i 0) (g i)) m
theorem Vp(B:List Int)(g:Nat->List Wd)(m:Qqp)(n:Nat):Q1g B g m (n+1)=Qa (Q1g B g m n) (B.getD n 0) (g n):=by
 unfold Q1g;rw[Ea,De];rfl
theorem Qhc(B:List Int)(g:Nat->List Wd)(m:Qqp):∀n,(mC (Q1g B g m n)).length=(mC m).length
 |0=>rfl
 |n+1=>by rw[Vp,Qf1,Qhc B g m n]
theorem Q8k(B:List Int)(g:Nat->List Wd)(m:Qqp):∀n,mF (Q1g B g m n)=mF m
 |0=>rfl
 |n+1=>by rw[Vp,Qq6,Q8k B g m n]
theorem Q1a(B C:List Int)(g E:Nat->List Wd)(m:Qqp):∀n,(∀i,i<n->B.getD i 0=C.getD i 0/\g i=E i)->Q1g B g m n=Q1g C E m n
 |0,_=>rfl
 |n+1,h=>by rw[Vp,Vp,Q1a B C g E m n (λi F=>h i (by omega)),(h n (by omega)).1,(h n (by omega)).2]
theorem Qad(B:List Int)(g:Nat->List Wd)(m:Qqp)(y:Qb):∀n,(∀i,i<n->(B.getD i 0).toNat≠(mF m).toNat)->Qj (Q1g B g m n) y=Q1g B g (Qj m y) n
 |0,_=>rfl
 |n+1,h=>by rw[Vp,Vp,Q2v _ _ _ _ (by rw[Q8k];exact h n (by omega)),Qad B g m y n (λi C=>h i (by omega))]
theorem Qbc(B:List Int)(g:Nat->List Wd)(m:Qqp)(v:List Wd):∀n k,k<n->(∀i j,i<n->j<n->i≠j->(B.getD i 0).toNat≠(B.getD j 0).toNat)->Qa (Q1g B g m n) (B.getD k 0) v=Q1g B (λi=>if i=k then v else g i) m n
 |0,_,h,_=>absurd h (Da _)
 |n+1,k,hk,hd=>by
  rw[Vp,Vp];by_cases e:k=n
  ·subst e
   rw[Q42];simp only[if_true];rw[Q1a B B g (λi=>if i=k then v else g i) m k (λi C=>⟨rfl,by rw[if_neg (by omega)]⟩)]
  ·rw[Q66 _ _ _ _ _ (hd n k (by omega) hk (by omega)),Qbc B g m v n k (by omega) (λi j C E=>hd i j (by omega) (by omega))]
   rw[if_neg (by omega:¬n=k)]
theorem Qbd(B:List Int)(g:Nat->List Wd)(m:Qqp):∀n k,k<n->(∀i j,i<n->j<n->i≠j->(B.getD i 0).toNat≠(B.getD j 0).toNat)->(∀i,i<n->(B.getD i 0).toNat<(mC m).length)->aW (Q7 (mC (Q1g B g m n)) (B.getD k 0))=g k
 |0,_,h,_,_=>absurd h (Da _)
 |n+1,k,hk,hd,hb=>by
  rw[Vp];by_cases e:k=n
  ·subst e;exact Q48 _ _ _ (by rw[Qhc];exact hb _ hk)
  ·rw[Q5a _ _ _ _ (hd n k (by omega) hk (by omega))]
   exact Qbd B g m n k (by omega) (λi j C E=>hd i j (by omega) (by omega)) (λi C=>hb i (by omega))
theorem Q72{m:Qqp}{l:List Nat}(h:Yf m l)(B:Int):∀n,n<=l.length->Yf (Jb m B n).1 (l.drop n)/\(∀i,i<n->(Jb m B n).2.getD i 0=((l.getD i 0:Nat):Int)/\l.getD i 0<(mC m).length)
 |0,_=>⟨h,λi C=>absurd C (Da _)⟩
 |n+1,hn=>by
  obtain⟨E,F⟩:=Q72 h B n (by omega);have G:l.drop n=l.getD n 0::l.drop (n+1):=by rw[Ee (by omega),Ab,Ad (by omega)];rfl
  rw[G]at E;obtain⟨f1,f2,f3⟩:=E.take (3,B,0,[],[]);rw[Qa5]at f3;have H:=Q18 m B n;refine⟨f1,λi C=> ?_⟩;show((Jb m B n).2++ [mF (Jb m B n).1]).getD i 0=_/\_;by_cases e:i=n
  ·subst e
   refine⟨?_,by omega⟩;rw[Ab,Em (by omega),H,Gp,f2];rfl
  ·rw[Ab,Gn (by omega),<-Ab]
   exact F i (by omega)
theorem Q7a{l:List Nat}(h:l.Nodup){i j:Nat}(B:i<l.length)(C:j<l.length)(E:i≠j):l.getD i 0≠l.getD j 0:=by
 rw[Ab,Ad B,Ab,Ad C];exact λe=>E ((List.getElem_inj (h:=h)).1 e)
theorem Qhe{m:Qqp}{l:List Nat}(h:Yf m l)(B:Int)(xs:List Wd)(C:Wd):∀n,n<=l.length->Q15 m B xs C n=(Q1g (Jb m B n).2 (λi=> [xs.getD i (0,0),C]) (Jb m B n).1 n,(Jb m B n).2)
 |0,_=>rfl
 |n+1,hn=>by
  obtain⟨F,G⟩:=Q72 h B n (by omega);obtain⟨P,S⟩:=Q72 h B (n+1) hn;have H:=Jw.nodup h;have J:mF (Jb m B n).1=((l.getD n 0:Nat):Int):=by
   have K:l.drop n=l.getD n 0::l.drop (n+1):=by rw[Ee (by omega),Ab,Ad (by omega)];rfl
   rw[K]at F;exact(F.take Z5).2.1
  have L:=Q18 m B n;have M:∀i,i<n->((Jb m B n).2++ [mF (Jb m B n).1]).getD i 0=(Jb m B n).2.getD i 0:=λi E=>by rw[Ab,Gn (by omega),<-Ab]
  have O:((Jb m B n).2++ [mF (Jb m B n).1]).getD n 0=mF (Jb m B n).1:=by rw[Ab,Em (by omega),L,Gp];rfl
  show(Qj (Q15 m B xs C n).1 (3,B,0,[],[xs.getD n (0,0),C]),(Q15 m B xs C n).2++ [mF (Q15 m B xs C n).1])=(Q1g ((Jb m B n).2++ [mF (Jb m B n).1]) (λi=> [xs.getD i (0,0),C]) (Qj (Jb m B n).1 (3,B,0,[],[])) (n+1),(Jb m B n).2++ [mF (Jb m B n).1]);rw[Qhe h B xs C n (by omega)];simp only[Q8k,Prod.mk.injEq,and_true];rw[Vp,O,Q1a _ (Jb m B n).2 _ (λi=> [xs.getD i (0,0),C]) _ n (λi E=>⟨M i E,rfl⟩)];rw[<-Qad _ _ _ _ n (λi E=>by rw[(G i E).1,J,By,By];exact Q7a H (by omega) (by omega) (by omega))];have:=Qcc (Q1g (Jb m B n).2 (λi=> [xs.getD i (0,0),C]) (Jb m B n).1 n) 3 B 0 [] [] [xs.getD n (0,0),C];rw[Q8k]at this;exact this.symm
theorem Qgd(B:List Int)(g:Nat->List Wd)(m:Qqp)(n:Nat)(C:∀i j,i<n->j<n->i≠j->(B.getD i 0).toNat≠(B.getD j 0).toNat)(E:∀i,i<n->(B.getD i 0).toNat<(mC m).length):∀k,k<=n->(Bz k).foldl (Q4o B) (Q1g B g m n)=Q1g B (λi=>if i<k then(g i).set 1 (1,B.getD (i+1) 0)else g i) m n
 |0,_=>Q1a _ _ _ _ _ _ λi G=>⟨rfl,by simp⟩
 |k+1,hk=>by
  rw[Ea,De,Qgd B g m n C E k (by omega)];show Q4o B _ k=_;unfold Q4o Qh;rw[Qbd B _ m n k (by omega) C E,Qbc B _ m _ n k (by omega) C];refine Q1a _ _ _ _ _ _ λi G=>⟨rfl, ?_⟩;by_cases e:i=k
  ·subst e
   rw[if_pos rfl,if_neg (by omega),if_pos (by omega)];rfl
  ·rw[if_neg e]
   by_cases F:i<k
   ·rw[if_pos F,if_pos (by omega)]
   ·rw[if_neg F,if_neg (by omega)]
theorem Qiq{m:Qqp}{l:List Nat}(h:Yf m l)(x y:Qb)(J:(aW x).length+1<=l.length):Q3j m x y=Vy m x y:=by
 obtain⟨e,B,rfl⟩:∃e B,l=e::B:=by
  match l,(show 0<l.length by omega)with
  |e::B,_=>exact⟨e,B,rfl⟩
 have O:=Jw.nodup h;obtain⟨f1,P,S⟩:=h.take (12,aL y,Q12 x y,[],[]);have G:(aW x).length<=B.length:=by simp only[Bs]at J;omega
 unfold Q3j Vy;simp only[];have H:=Q18 (Qj m (12,aL y,Q12 x y,[],[])) (aL y) (aW x).length;rw[H];by_cases C:(aW x).length=0
 ·rw[if_pos C,if_pos C,C];rfl
 ·rw[if_neg C,if_neg C,Qhe f1 _ _ _ _ G]
  simp only[];obtain⟨q1,F⟩:=Q72 f1 (aL y) _ G;have K:=Jw.nodup f1;rw[Qgd _ _ _ _ (λi j E L M=>by rw[(F i E).1,(F j L).1,By,By];exact Q7a K (by omega) (by omega) M) (λi E=>by rw[(F i E).1,By,Qa5];exact(F i E).2) _ (Nat.sub_le _ _)];congr 2
  show Q1g _ _ _ _=Q1g _ (Q1t x y _) _ _;refine Q1a _ _ _ _ _ _ λi E=>⟨rfl, ?_⟩;unfold Q1t;rw[H];by_cases e:i+1<(aW x).length
  ·rw[if_pos (by omega),if_pos e];rfl
  ·rw[if_neg (by omega),if_neg e]
end Go.Proofs.YthbpkpnioaniiaaGreat
