import Derived.Test.YtcjngpfigpglfaaGreatDoorP13
set_option maxHeartbeats 0
set_option maxRecDepth 100000
set_option linter.all false
namespace Go.Proofs.YtcjngpfigpglfaaGreatDoor
open Go.RowKit Go.Proofs.Tryz
open Go.Value renaming int->I,slice->A
open Go.IntKind renaming i64->Z
open Option renaming none->N,some->R
open OC(oC)
open OR(oR)
open JN(jN)
open And renaming intro->Cj
open List renaming cons_append->Bw,nil_append->Bs,append_nil->Cl,append_assoc->Co
open Nat renaming reduceAdd->Bj,mul_one->Cc
abbrev Qxt(f:Nat)(t:Ty):Prop:=∀(w:World) (v:Value) (xs:List t.den) (k:Int),Rd (.slice t) w [v] (mk (.slice t) xs k)->0<=k->k+(Y3 t xs:Nat)<=1000000000->Calls prog f #[v,I Z k] w λe w'=>e=.returned (I Z (k+(Y3 t xs:Nat)))/\(w,w')
def Qip{n m}(h:m=n):R (I Z m)=R (I Z n):=by rw[h]
def Qae{t w v a b}(h:Rd t w [v] b)(e:a=b):Rd t w [v] a:=by rw[e];exact h
theorem Qwo:(True->True->True->Qxt 17 Ty.int)/\(True->True->True->Qxt 147 Q5)/\(True->True->True->Qxt 95 Q5)/\(True->True->True->Qxt 148 Z7)/\((Qxt 17 Ty.int)->(Qxt 147 Q5)->True->Qxt 94 Q4)/\((Qxt 95 Q5)->(Qxt 148 Z7)->(Qxt 17 Ty.int)->Qxt 96 Qh)/\((Qxt 94 Q4)->(Qxt 95 Q5)->(Qxt 96 Qh)->Qxt 48 Qv):=by
 refine⟨?_, ?_, ?_, ?_, ?_, ?_, ?_⟩
 all_goals
  intro f g j w v xs k h h0 C;have H1:=qh f;have H2:=qh g;have H3:=qh j;clear f g j;obtain⟨p,A5,rfl,l,r,s⟩:=(Ju h).gen;clear h;unfold maxLen at r;have t:=Q3x xs k;have HX:=qh s;clear s;rw[t]at l r⊢;clear t;(first|(go_enter func17,ntmps17)|(go_enter func147,ntmps147)|(go_enter func95,ntmps95)|(go_enter func148,ntmps148)|(go_enter func94,ntmps94)|(go_enter func96,ntmps96)|(go_enter func48,ntmps48))
  go_wp2;go_loopw [1,5] (λkv X wr=>∃i:Nat,i<=xs/\X=I Z i/\kv=I Z (k+(Y3 _ (xs.take i):Nat))/\Hd (w,wr)) (λ_ X _=>xs.length-(intOf X).toNat);case atStart=>exact⟨0,Ak _,rfl,by simp[Y3],Ai _ _⟩
  obtain⟨i,hi,rfl,rfl,J⟩:=hrel;by_cases Y:i<xs;case neg=>have A1:=qh (Qhy (xs:=xs) (k:=i) (by omega));go_wp2;go_ret;exact⟨Qt (by rw[A1.o]),J.o⟩
  obtain⟨b,o,rfl,cs,A2,E,O⟩:=HX.o i (by rw[Q3x];exact Y);rw[Qtw xs k i Y]at O;have V:=Qhf Y;have u:=Qqo xs (i+1);generalize xs[i]=x at O V;rw[V]at u;have HS:=qh V;clear V A2;generalize Y3 _ (xs.take i)=m at *
 all_goals
  have E:=E.kb J;have K:=λq v (h:wr.cell? ⟨b,q,N⟩=R v)=>Ac _ _ h
  first
   |(obtain⟨_,_,rfl,⟨_,_,rfl,F,⟨_,_,rfl,⟨rfl,_⟩,⟨_,_,rfl,⟨_,_,rfl,⟨rfl,_⟩,⟨rfl,_⟩⟩,G⟩⟩⟩,⟨_,_,rfl,L,⟨rfl,_⟩⟩⟩:=O
     obtain⟨T,rfl,F⟩:=Q0i F;obtain⟨v1,rfl,G⟩:=Q0i G;obtain⟨a,rfl,L⟩:=Q0i L;try simp only[Bw,Bs,Cl,Co]at *
     have P:Vh _ x=Y3 _ x.1.1+1+1+1+Y3 _ x.1.2.2.2+Y3 _ x.2.1+1:=by simp[Vh,Y3];try omega
     have y:0<=(Y3 _ x.1.1:Int):=by omega
     have z:0<=(Y3 _ x.1.2.2.2:Int):=by omega
     have A3:0<=(Y3 _ x.2.1:Int):=by omega
     simp only[Ty.sz,Bj]at E;obtain⟨B,H,M,S,r4,r5,r6⟩:=Qw8 E;have c:=D (Rd (Ty.slice _) w [T] (mk (Ty.slice _) x.1.1 (k+(m:Nat)))) ((Qae F (by first|rfl|(change _=mk (Ty.slice _) x.1.1 _;congr 1;simp[Vh,Y3];omega))));clear F;have W:=H.trans (Qip (n:=k+(m:Nat)+(Y3 _ x.1.1:Nat)) (by first|rfl|(simp[mk,Vh,Y3];omega)));have e2:=M.trans (Qip (n:=k+(m:Nat)+(Y3 _ x.1.1:Nat)+1) (by first|rfl|(simp[mk,Vh,Y3];omega)));have e3:=S.trans (Qip (n:=k+(m:Nat)+(Y3 _ x.1.1:Nat)+1+1) (by first|rfl|(simp[mk,Vh,Y3];omega)));have d:=D (Rd (Ty.slice _) w [v1] (mk (Ty.slice _) x.1.2.2.2 (k+(m:Nat)+(Y3 _ x.1.1:Nat)+1+1+1))) ((Qae G (by first|rfl|(change _=mk (Ty.slice _) x.1.2.2.2 _;congr 1;simp[Vh,Y3];omega))));clear G;have A0:=D (Rd (Ty.slice _) w [a] (mk (Ty.slice _) x.2.1 (k+(m:Nat)+(Y3 _ x.1.1:Nat)+1+1+1+(Y3 _ x.1.2.2.2:Nat)))) ((Qae L (by first|rfl|(change _=mk (Ty.slice _) x.2.1 _;congr 1;simp[Vh,Y3];omega))));clear L;have e6:=r6.trans (Qip (n:=k+(m:Nat)+(Y3 _ x.1.1:Nat)+1+1+1+(Y3 _ x.1.2.2.2:Nat)+(Y3 _ x.2.1:Nat)) (by first|rfl|(simp[mk,Vh,Y3];omega)));clear H M S r6)
   |(obtain⟨_,_,rfl,⟨rfl,_⟩,⟨_,_,rfl,⟨rfl,_⟩,⟨_,_,rfl,F,⟨_,_,rfl,G,L⟩⟩⟩⟩:=O
     obtain⟨T,rfl,F⟩:=Q0i F;obtain⟨v1,rfl,G⟩:=Q0i G;obtain⟨a,rfl,L⟩:=Q0i L;try simp only[Bw,Bs,Cl,Co]at *
     have P:Vh _ x=1+1+Y3 _ x.2.2.1+Y3 _ x.2.2.2.1+Y3 _ x.2.2.2.2:=by simp[Vh,Y3];try omega
     have y:0<=(Y3 _ x.2.2.1:Int):=by omega
     have z:0<=(Y3 _ x.2.2.2.1:Int):=by omega
     have A3:0<=(Y3 _ x.2.2.2.2:Int):=by omega
     simp only[Ty.sz,Bj]at E;obtain⟨B,H,M,S,r4⟩:=Q5v E;have U:=B.trans (Qip (n:=k+(m:Nat)) (by first|rfl|(simp[mk,Vh,Y3];omega)));have W:=H.trans (Qip (n:=k+(m:Nat)+1) (by first|rfl|(simp[mk,Vh,Y3];omega)));have c:=D (Rd (Ty.slice _) w [T] (mk (Ty.slice _) x.2.2.1 (k+(m:Nat)+1+1))) ((Qae F (by first|rfl|(change _=mk (Ty.slice _) x.2.2.1 _;congr 1;simp[Vh,Y3];omega))));clear F;have d:=D (Rd (Ty.slice _) w [v1] (mk (Ty.slice _) x.2.2.2.1 (k+(m:Nat)+1+1+(Y3 _ x.2.2.1:Nat)))) ((Qae G (by first|rfl|(change _=mk (Ty.slice _) x.2.2.2.1 _;congr 1;simp[Vh,Y3];omega))));clear G;have A0:=D (Rd (Ty.slice _) w [a] (mk (Ty.slice _) x.2.2.2.2 (k+(m:Nat)+1+1+(Y3 _ x.2.2.1:Nat)+(Y3 _ x.2.2.2.1:Nat)))) ((Qae L (by first|rfl|(change _=mk (Ty.slice _) x.2.2.2.2 _;congr 1;simp[Vh,Y3];omega))));clear L;clear B H)
   |(obtain⟨_,_,rfl,⟨rfl,_⟩,⟨_,_,rfl,⟨rfl,_⟩,⟨_,_,rfl,⟨rfl,_⟩,⟨_,_,rfl,F,G⟩⟩⟩⟩:=O
     obtain⟨T,rfl,F⟩:=Q0i F;obtain⟨v1,rfl,G⟩:=Q0i G;try simp only[Bw,Bs,Cl,Co]at *
     have P:Vh _ x=1+1+1+Y3 _ x.2.2.2.1+Y3 _ x.2.2.2.2:=by simp[Vh,Y3];try omega
     have y:0<=(Y3 _ x.2.2.2.1:Int):=by omega
     have z:0<=(Y3 _ x.2.2.2.2:Int):=by omega
     simp only[Ty.sz,Bj]at E;obtain⟨B,H,M,S,r4⟩:=Q5v E;have U:=B.trans (Qip (n:=k+(m:Nat)) (by first|rfl|(simp[mk,Vh,Y3];omega)));have W:=H.trans (Qip (n:=k+(m:Nat)+1) (by first|rfl|(simp[mk,Vh,Y3];omega)));have e2:=M.trans (Qip (n:=k+(m:Nat)+1+1) (by first|rfl|(simp[mk,Vh,Y3];omega)));have c:=D (Rd (Ty.slice _) w [T] (mk (Ty.slice _) x.2.2.2.1 (k+(m:Nat)+1+1+1))) ((Qae F (by first|rfl|(change _=mk (Ty.slice _) x.2.2.2.1 _;congr 1;simp[Vh,Y3];omega))));clear F;have d:=D (Rd (Ty.slice _) w [v1] (mk (Ty.slice _) x.2.2.2.2 (k+(m:Nat)+1+1+1+(Y3 _ x.2.2.2.1:Nat)))) ((Qae G (by first|rfl|(change _=mk (Ty.slice _) x.2.2.2.2 _;congr 1;simp[Vh,Y3];omega))));clear G;clear B H M)
   |(obtain⟨_,_,rfl,⟨_,_,rfl,⟨rfl,_⟩,⟨rfl,_⟩⟩,⟨_,_,rfl,⟨rfl,_⟩,⟨rfl,_⟩⟩⟩:=O
     try simp only[Bw,Bs,Cl,Co]at *
     have P:Vh _ x=1+1+1+1:=by simp[Vh,Y3];try omega
     simp only[Ty.sz,Bj]at E;obtain⟨B,H,M,S⟩:=Qqr E;have U:=B.trans (Qip (n:=k+(m:Nat)) (by first|rfl|(simp[mk,Vh,Y3];omega)));have W:=H.trans (Qip (n:=k+(m:Nat)+1) (by first|rfl|(simp[mk,Vh,Y3];omega)));have e2:=M.trans (Qip (n:=k+(m:Nat)+1+1) (by first|rfl|(simp[mk,Vh,Y3];omega)));have e3:=S.trans (Qip (n:=k+(m:Nat)+1+1+1) (by first|rfl|(simp[mk,Vh,Y3];omega)));clear B H M S)
   |(obtain⟨_,_,rfl,⟨rfl,_⟩,⟨rfl,_⟩⟩:=O
     try simp only[Bw,Bs,Cl,Co]at *
     have P:Vh _ x=1+1:=by simp[Vh,Y3];try omega
     simp only[Ty.sz,Bj]at E;obtain⟨B,H⟩:=Qg6 E;have U:=B.trans (Qip (n:=k+(m:Nat)) (by first|rfl|(simp[mk,Vh,Y3];omega)));have W:=H.trans (Qip (n:=k+(m:Nat)+1) (by first|rfl|(simp[mk,Vh,Y3];omega)));clear B H)
   |(obtain⟨rfl,_⟩:=O
     have P:Vh _ x=1:=by simp[Vh,Y3];try omega
     simp only[Ty.sz,Cc]at E;have B:=Qa6 E;have U:=B.trans (Qip (n:=k+(m:Nat)) (by first|rfl|(simp[mk,Vh,Y3];omega)));clear B)
  rw[P]at u;have A4:=qh P;clear P E;first|have K:=K _ _ U|have K:=K _ _ B
 any_goals
  go_wp2_with fail
  refine jR (H1.o _ _ _ _ (Rd.kept c.o (Am J)) (by omega) (by omega)) λw1 C=> ?_;have l:=(Vk C).1 b;have K:=Ap K C.size;replace J:=qh (Q0 J C);clear C
 any_goals
  go_wp2_with fail
  refine jR (H2.o _ _ _ _ (Rd.kept d.o (Am J)) (by omega) (by omega)) λw2 C=> ?_;have A6:=(Vk C).1 b;have K:=Ap K C.size;replace J:=qh (Q0 J C);clear C
 any_goals
  go_wp2_with fail
  refine jR (H3.o _ _ _ _ (Rd.kept A0 (Am J)) (by omega) (by omega)) λw3 C=> ?_;have A7:=(Vk C).1 b;have K:=Ap K C.size;replace J:=qh (Q0 J C);clear C
 all_goals(go_wp2;go_roundw)
 all_goals first
  |exact⟨i+1,by omega,by go_num,(by rw[HS.o,A4.o];(first|go_num|(congr 1;omega)|(congr 1;push_cast;omega))),J⟩
  |(simp[intOf];omega)
def Q9z:Qxt 17 Ty.int:=Qwo.1 trivial trivial trivial
def Qs7:Qxt 147 Q5:=Qwo.2.1 trivial trivial trivial
def Qp3:Qxt 95 Q5:=Qwo.2.2.1 trivial trivial trivial
def Quk:Qxt 148 Z7:=Qwo.2.2.2.1 trivial trivial trivial
def Qsn:Qxt 94 Q4:=Qwo.2.2.2.2.1 Q9z Qs7 trivial
def Qr1:Qxt 96 Qh:=Qwo.2.2.2.2.2.1 Qp3 Quk Q9z
def Qtj:Qxt 48 Qv:=Qwo.2.2.2.2.2.2 Qsn Qp3 Qr1
def Q54(w v1 T xs ys)(H:Rd (.slice .int) w [v1] xs)(J:Rd (.slice .int) w [T] ys):
  Calls prog 11 #[v1,T] w (oR w (Qyo (.slice .int) xs ys)):=by
 obtain⟨p,r,rfl,s,d,L⟩:=(Ju H).gen;obtain⟨q,t,rfl,u,f,M⟩:=(Ju J).gen;clear H J;unfold maxLen at d f;by_cases C:xs.length=ys
 ·have g:((xs:Int) !=(ys:Int))=false:=by simp[C]
  have U:=qh C;clear C;have h:=qh L;clear L;have j:=qh M;clear M;go_enter func11,ntmps11;go_wp2;go_loopw [5] (λi wr=>∃k:Nat,k<=xs/\i=I Z k/\xs.take k=ys.take k/\(w,wr)) (λi _=>xs.length-(intOf i).toNat);case atStart=>exact⟨0,Ak _,rfl,rfl,Ai _ _⟩
  obtain⟨k,v,rfl,V,E⟩:=hrel;have W:=qh V;clear V;by_cases K:k<xs
  ·have O:k<ys:=by rw[<-U.o];exact K
   obtain⟨b,o,rfl,cs,l,F,X⟩:=h.o k K;obtain⟨b',o',rfl,z,m,G,Y⟩:=j.o k O;generalize hxk:xs[k]=x at X;generalize hyk:ys[k]=y at Y;have a:=qh hxk;have c:=qh hyk;clear hxk hyk l m;obtain⟨rfl,_⟩:=X;obtain⟨rfl,_⟩:=Y;have F:=F.kb E;have G:=G.kb E;simp only[Ty.sz,Cc,Bj]at F G;have c0:=Qa6 F;have d0:=Qa6 G;clear F G;by_cases B:x=y
   ·have n:(x !=y)=false:=by simp[B]
    have P:=qh B;clear B;go_wp2;go_quiet(fail)
    go_wp2;go_roundw;case rel=>exact⟨k+1,by omega,by go_num,Ys K O W (by rw[a.o,c.o,P.o]),Q8 E _⟩
    simp[intOf];omega
   have n:(x !=y)=true:=by simp[B]
   have P:=qh B;clear B;go_wp2;go_quiet(fail)
   go_wp2;go_ret;exact⟨Y1 (by simp[Yi K O (by rw[a.o,c.o];exact P.o)]),Q8 E _⟩
  have H:xs<=k:=by omega
  have J:ys<=k:=by rw[<-U.o];omega
  have S:=qh (Jq W H J);go_wp2;go_ret;exact⟨Y1 (by simp[S.o]),E⟩
 have g:((xs:Int) !=(ys:Int))=true:=by simp;omega
 have S:=D (xs≠ys) (λe=>C (by rw[e]));clear C L M;go_enter func11,ntmps11;go_wp2;go_ret;exact⟨Y1 (by simp[S.o]),Ai _ _⟩
def Q8o:Qxn 215 Q5/\Qxn 84 Q5/\Qxn 140 Q5:=by
 refine⟨?_, ?_, ?_⟩
 all_goals
  intro w vs us x y B C;obtain⟨_,_,rfl,⟨rfl,E⟩,⟨rfl,F⟩⟩:=B;obtain⟨_,_,rfl,⟨rfl,G⟩,⟨rfl,H⟩⟩:=C;obtain⟨J,K⟩:=x;obtain⟨L,M⟩:=y;try simp only[Bw,Bs]at *
  (first|(go_enter func215,ntmps215)|(go_enter func84,ntmps84)|(go_enter func140,ntmps140))
  go_wp2_with fail
  all_goals(go_ret;exact⟨Y1 (by simp_all[Z5,Zu]),by go_grown⟩)
def Qgv(f:Nat)(a b:Value)(w:World)(r:Bool):Prop:=∀w',Below w w w'->Calls prog f #[a,b] w' λe w''=>e=.returned r/\Below w'.heap.size w' w''
def Q3n{f t w u v x y}(H:Qyu f t)(C:Rd (.slice t) w [u] x)(E:Rd (.slice t) w [v] y):Qgv f u v w (Qyo (.slice t) x y):=λw' B=>H w' u v x y (C.kb B) (E.kb B)
def Qaw{f t w us vs x y}(H:Qxn f t)(C:Rd t w us x)(E:Rd t w vs y):Qgv f (.agg us.toArray) (.agg vs.toArray) w (Qyo t x y):=λw' B=>H w' us vs x y (C.kb B) (E.kb B)
def Qaa:Qxn 138 Q4/\Qxn 139 Q4/\Qxn 181 Z7/\(Qyu 82 Q4->Qxn 38 Jl)/\(Qyu 83 Q4->Qxn 39 Qq)/\(Qyu 141 Z7->Qxn 86 Qh)/\(Qxn 39 Qq->Qyu 40 Qh->Qxn 13 Qv):=by
 refine⟨?_, ?_, ?_,λH=> ?_,λH=> ?_,λH=> ?_,λH K=> ?_⟩;all_goals intro w vs us x y T U
 any_goals
  obtain⟨_,_,rfl,⟨rfl,E⟩,⟨_,_,rfl,⟨rfl,G⟩,⟨_,_,rfl,⟨rfl,L⟩,⟨_,_,rfl,B,M⟩⟩⟩⟩:=T;obtain⟨_,rfl,B⟩:=Q0i B;obtain⟨_,rfl,M⟩:=Q0i M;obtain⟨_,_,rfl,⟨rfl,F⟩,⟨_,_,rfl,⟨rfl,J⟩,⟨_,_,rfl,⟨rfl,O⟩,⟨_,_,rfl,C,S⟩⟩⟩⟩:=U;obtain⟨_,rfl,C⟩:=Q0i C;obtain⟨_,rfl,S⟩:=Q0i S;obtain⟨Y,W,a,b,g⟩:=x;obtain⟨c,X,d,f,h⟩:=y
 case' refine_1=>have P:=qh (Cj (Q3n Q54 B C) (Cj (Q3n (Q49.1 Q8o.1) M S) trivial))
 case' refine_2=>have P:=qh (Cj (Q3n Q54 B C) (Cj (Q3n (Q49.2.1 Q8o.2.1) M S) trivial))
 case' refine_3=>obtain⟨_,_,rfl,E,G⟩:=T;obtain⟨_,_,rfl,F,J⟩:=U;have P:=qh (Cj (Qaw Q8o.2.1 E F) (Cj (Qaw Q8o.2.1 G J) trivial));obtain⟨_,_,rfl,⟨rfl,_⟩,⟨rfl,_⟩⟩:=E;obtain⟨_,_,rfl,⟨rfl,_⟩,⟨rfl,_⟩⟩:=G;obtain⟨_,_,rfl,⟨rfl,_⟩,⟨rfl,_⟩⟩:=F;obtain⟨_,_,rfl,⟨rfl,_⟩,⟨rfl,_⟩⟩:=J;obtain⟨⟨i,j⟩,⟨o,p⟩⟩:=x;obtain⟨⟨k,l⟩,⟨q,r⟩⟩:=y
 case' refine_4=>obtain⟨_,rfl,E⟩:=Q0i T;obtain⟨_,rfl,F⟩:=Q0i U;have P:=qh (Cj (Q3n H E F) trivial)
 case' refine_5=>obtain⟨_,_,rfl,E,⟨_,_,rfl,⟨rfl,G⟩,⟨_,_,rfl,L,B⟩⟩⟩:=T;obtain⟨_,rfl,E⟩:=Q0i E;obtain⟨_,rfl,B⟩:=Q0i B;obtain⟨_,_,rfl,F,⟨_,_,rfl,⟨rfl,J⟩,⟨_,_,rfl,O,C⟩⟩⟩:=U;obtain⟨_,rfl,F⟩:=Q0i F;obtain⟨_,rfl,C⟩:=Q0i C;have P:=qh (Cj (Q3n H E F) (Cj (Qaw Q8o.2.1 L O) (Cj (Q3n (Q49.2.2.1 Q8o.2.2) B C) trivial)));obtain⟨_,_,rfl,⟨rfl,_⟩,⟨rfl,_⟩⟩:=L;obtain⟨_,_,rfl,⟨rfl,_⟩,⟨rfl,_⟩⟩:=O;obtain⟨Y,W,⟨s,t⟩,b⟩:=x;obtain⟨c,X,⟨u,v⟩,f⟩:=y
 case' refine_6=>obtain⟨_,_,rfl,⟨rfl,E⟩,⟨_,_,rfl,⟨rfl,G⟩,⟨_,_,rfl,L,⟨_,_,rfl,B,M⟩⟩⟩⟩:=T;obtain⟨_,rfl,L⟩:=Q0i L;obtain⟨_,rfl,B⟩:=Q0i B;obtain⟨_,rfl,M⟩:=Q0i M;obtain⟨_,_,rfl,⟨rfl,F⟩,⟨_,_,rfl,⟨rfl,J⟩,⟨_,_,rfl,O,⟨_,_,rfl,C,S⟩⟩⟩⟩:=U;obtain⟨_,rfl,O⟩:=Q0i O;obtain⟨_,rfl,C⟩:=Q0i C;obtain⟨_,rfl,S⟩:=Q0i S;have P:=qh (Cj (Q3n (Q49.2.2.1 Q8o.2.2) L O) (Cj (Q3n H B C) (Cj (Q3n Q54 M S) trivial)));obtain⟨Y,W,a,b,g⟩:=x;obtain⟨c,X,d,f,h⟩:=y
 case' refine_7=>obtain⟨_,_,rfl,E,⟨_,_,rfl,G,⟨rfl,L⟩⟩⟩:=T;obtain⟨_,_,rfl,F,⟨_,_,rfl,J,⟨rfl,O⟩⟩⟩:=U;obtain⟨_,rfl,G⟩:=Q0i G;obtain⟨_,rfl,J⟩:=Q0i J;have P:=qh (Cj (Qaw H E F) (Cj (Q3n K G J) trivial));obtain⟨_,_,rfl,B,⟨_,_,rfl,⟨rfl,_⟩,⟨_,_,rfl,⟨_,_,rfl,⟨rfl,_⟩,⟨rfl,_⟩⟩,m⟩⟩⟩:=E;obtain⟨_,rfl,-⟩:=Q0i B;obtain⟨_,rfl,-⟩:=Q0i m;obtain⟨_,_,rfl,C,⟨_,_,rfl,⟨rfl,_⟩,⟨_,_,rfl,⟨_,_,rfl,⟨rfl,_⟩,⟨rfl,_⟩⟩,n⟩⟩⟩:=F;obtain⟨_,rfl,-⟩:=Q0i C;obtain⟨_,rfl,-⟩:=Q0i n;obtain⟨⟨i,j,⟨z,A0⟩,A1⟩,W,a⟩:=x;obtain⟨⟨k,l,⟨A2,A3⟩,A4⟩,X,d⟩:=y
 all_goals
  try simp only[Bw,Bs]at *
  (first|(go_enter func138,ntmps138)|(go_enter func139,ntmps139)|(go_enter func181,ntmps181)|(go_enter func38,ntmps38)|(go_enter func39,ntmps39)|(go_enter func86,ntmps86)|(go_enter func13,ntmps13))
  go_wp2_with fail
  iterate 4
   all_goals first
    |(go_ret;exact⟨Y1 (by simp_all[Z5,Zu]),by go_grown⟩)
    |(refine(P.o.1 _ (by go_grown)).mono ?_
      rintro e w1 ⟨rfl,V⟩;obtain⟨A5,A6⟩:=Vk V;have A7:Below w w w1:=Q0 (by go_grown) V;have A8:w.heap.size+1<w1.heap.size:=by have:=V.size;(try simp at this);omega
      have A9:w.heap.size<w1:=by omega
      replace P:=qh P.o.2;clear V;go_wp2_with fail)
def Qtl:Qyu 12 Jl:=Q49.2.2.2.2.2.2.1 (Qaa.2.2.2.1 (Q49.2.2.2.2.1 Qaa.1))
def Ql1:Qxn 13 Qv:=Qaa.2.2.2.2.2.2 (Qaa.2.2.2.2.1 (Q49.2.2.2.2.2.1 Qaa.2.1)) (Q49.2.2.2.2.2.2.2.1 (Qaa.2.2.2.2.2.1 (Q49.2.2.2.1 Qaa.2.2.1)))
def Qz4:Qyu 46 Qv:=Q49.2.2.2.2.2.2.2.2 Ql1
end Go.Proofs.YtcjngpfigpglfaaGreatDoor
