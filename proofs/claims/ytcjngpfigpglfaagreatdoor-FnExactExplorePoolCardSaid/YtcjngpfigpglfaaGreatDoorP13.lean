import Derived.Test.YtcjngpfigpglfaaGreatDoorP00
set_option maxHeartbeats 0
set_option maxRecDepth 100000
set_option linter.all false
namespace Go.Proofs.YtcjngpfigpglfaaGreatDoor
open Go.RowKit Go.Proofs.Tryz
open Go.Value renaming int->I,slice->A
open Go.IntKind renaming i64->Z
open Option renaming none->N,some->R
open OC(oC)
open OR(oR)
open JN(jN)
open And renaming intro->Cj
open Bool renaming false->Bm,eq_false_iff->Fk,and_eq_true->Bi
open Go renaming World->Bh,Value->Bk,Calls->Bv,maxLen->Bu,madeCells->Ds,heap_alloc_new->Bg,bodyPost_ret->Ce
open Go.RowKit renaming Below->Bp,intOf->By
open Go.Value renaming agg->Dl
open List renaming cons_append->Bw,nil_append->Bs,length->Ca,append_nil->Cl,append_assoc->Co
open Nat renaming not_lt_zero->Dh,mul_one->Cc,lt_or_eq_of_le->Im,le_of_lt_succ->In,reduceAdd->Bj
abbrev Qx2(t:Ty)(w:Bh)(v:Bk)(xs:List t.den)(pr:t.den->Bool)(fid:Nat)(cp:Array Bk)(q:Prop):Prop:=Rd (.slice t) w [v] xs->Vw prog fid->(∀(wx:Bh) (vs:List Bk) (x:t.den),x∈xs->Bp w w wx->Rd t wx vs x->Bv prog fid (#[.agg vs.toArray]++cp) wx (oR wx (pr x)))->q
abbrev Qkp(f:Nat)(t:Ty):Prop:=∀(w:Bh) (v:Bk) (xs:List t.den) (pr:t.den->Bool) (fid:Nat) (cp:Array Bk),Qx2 t w v xs pr fid cp (Bv prog f #[v,.func (.func fid) #[] cp] w (oR w (Q5z pr xs)))
abbrev Qop(f:Nat)(t:Ty):Prop:=∀(w:Bh) (v:Bk) (xs:List t.den) (pr:t.den->Bool) (fid:Nat) (cp:Array Bk),Qx2 t w v xs pr fid cp (Bv prog f #[v,.func (.func fid) #[] cp] w (oR w (List.any xs pr)))
def Qib{w v xs}(C){H P}(h:Rd (Ty.slice Ty.int) w [v] xs)(Y:Vw prog H)(S:∀(G:Bh) (x:Ty.int.den),x∈xs->Bp w w G->Bv prog H (#[I Z x]++P) G λe w'=>e=.returned (.bool (C x))/\(G,w')):
  Bv prog 194 #[v,.func (.func H) #[] P] w λe w'=>e=.returned (I Z (Q5z C xs))/\(w,w'):=by
 obtain⟨p,l,rfl,m,a,T⟩:=(Ju h).gen;clear h;unfold Bu at a;unfold Vw at Y;have d:=qh T;have U:=qh S;clear T S;go_enter func194,ntmps194;go_wp2;go_loopw [8] (λc wr=>∃k:Nat,k<=xs/\c=I Z k/\Hd (∀(j:Nat) (V:j<xs),j<k->C xs[j]=Bm)/\Hd (w,wr)) (λc _=>xs.length-(By c).toNat);case atStart=>exact⟨0,Ak _,rfl,λj _ h=>absurd h (Dh _),Ai _ _⟩
 obtain⟨k,n,rfl,J,B⟩:=hrel;by_cases K:k<xs
 ·obtain⟨b,o,rfl,cs,f,E,L⟩:=d.o k K
  have M:=As K;generalize hxk:xs[k]=x at L M;have W:=qh hxk;have X:=qh M;clear hxk M f;have q:=qh L;obtain⟨rfl,_⟩:=L;have E:=E.kb B;simp only[Ty.sz,Cc]at E;have r:=Qa6 E;clear E;cases hp:C x
  ·go_wp2_with fail
   refine jR (U.o _ _ X B) λw1 F=> ?_;have O:=qh (Q0 B F);clear F;rw[hp];go_wp2;go_roundw;case rel=>exact⟨k+1,by omega,by go_num,(λj V g=>(Im (In g)).elim (J.o j V) (λe=>by subst e;rw[W.o];exact hp)),O⟩
   simp[By];omega
  go_wp2_with fail
  refine jR (U.o _ _ X B) λw1 F=> ?_;have O:=qh (Q0 B F);clear F;rw[hp];go_wp2;go_ret;exact⟨Qt (Qf5 K J (by rw[W.o];exact hp)).symm,O.o⟩
 have i:=qh (Q9a (p:=C) (xs:=xs) (k:=k) (by omega) J);go_wp2;go_ret;exact⟨Qt i.o.symm,B.o⟩
def Q24{w v}(xs B){E F}(h:Rd (Ty.slice Ty.int) w [v] xs)(G:Vw prog E)(J:∀(C:Bh) (x:Ty.int.den),x∈xs->Bp w w C->Bv prog E (#[I Z x]++F) C λe w'=>e=.returned (.bool (B x))/\(C,w')):
  Bv prog 160 #[v,.func (.func E) #[] F] w λe w'=>e=.returned (.bool (List.any xs B))/\(w,w'):=by
 have H:=qh h;have L:=qh J;have M:=qh G;clear h J G;have O:=qh (Qcm B xs);go_enter func160,ntmps160;go_wp2_with fail
 refine jR (Qib B H M L) λw1 K=> ?_;have P:=qh K;clear K;go_wp2;go_ret;exact⟨Vy O,P.o⟩
def Qu1{us:List Bk}(h:us.length=10):∃B C E F G H J K L M,us=[B,C,E,F,G,H,J,K,L,M]:=by
 match us,h with
 | [B,C,E,F,G,H,J,K,L,M],_=>exact⟨B,C,E,F,G,H,J,K,L,M,rfl⟩
def Qw0{w b o B v1 C E F G H J K L}(h:Qy2 w b o [B,v1,C,E,F,G,H,J,K,L]):(w,b,o,B)/\(w,b,o+1,v1)/\(w,b,o+2,C)/\(w,b,o+3,E)/\(w,b,o+4,F)/\(w,b,o+5,G)/\(w,b,o+6,H)/\(w,b,o+7,J)/\(w,b,o+8,K)/\(w,b,o+9,L):=
 ⟨h 0 (by simp),h 1 (by simp),h 2 (by simp),h 3 (by simp),h 4 (by simp),h 5 (by simp),h 6 (by simp),h 7 (by simp),h 8 (by simp),h 9 (by simp)⟩
def Q93:Qkp 231 Q5/\Qkp 166 Q5/\Qkp 168 Q5/\Qkp 162 Q4/\Qkp 202 Jl/\Qkp 183 Qh/\Qkp 34 (.pair Qv (.pair .int (.pair .int .int))):=by
 refine⟨?_, ?_, ?_, ?_, ?_, ?_, ?_⟩
 all_goals
  intro w v xs H A1 cp h l S;obtain⟨p,A2,rfl,A3,m,T⟩:=(Ju h).gen;clear h;unfold Bu at m;unfold Vw at l;have n:=qh T;have q:=qh S;clear T S;(first|(go_enter func231,ntmps231)|(go_enter func166,ntmps166)|(go_enter func168,ntmps168)|(go_enter func162,ntmps162)|(go_enter func202,ntmps202)|(go_enter func183,ntmps183)|(go_enter func34,ntmps34))
  go_wp2;go_loopw [8] (λc wr=>∃k:Nat,k<=xs/\c=I Z k/\Hd (∀(j:Nat) (U:j<xs),j<k->H xs[j]=Bm)/\Hd (w,wr)) (λc _=>xs.length-(By c).toNat);case atStart=>exact⟨0,Ak _,rfl,λj _ h=>absurd h (Dh _),Ai _ _⟩
  obtain⟨k,hk,rfl,J,E⟩:=hrel;by_cases K:k<xs
  ·obtain⟨b,o,rfl,cs,C,B,L⟩:=n.o k K
   have M:=As K;generalize hxk:xs[k]=x at L M;have V:=qh hxk;have r:=qh M;clear hxk M;have s:=qh L;clear L;have B:=B.kb E.o
   first
    |(obtain⟨F,O,rfl⟩:=Qps C;simp only[Ty.sz,Cc,Bj]at B;obtain⟨G,P⟩:=Qg6 B)
    |(obtain⟨F,rfl⟩:=Qgp C;simp only[Ty.sz,Cc,Bj]at B;have G:=Qa6 B)
    |(obtain⟨F,O,W,X,Y,rfl⟩:=Qnn C;simp only[Ty.sz,Cc,Bj]at B;obtain⟨G,P,a,d,f⟩:=Q5v B)
    |(obtain⟨F,O,W,X,Y,t,u,rfl⟩:=Qda C;simp only[Ty.sz,Cc,Bj]at B;obtain⟨G,P,a,d,f,y,z⟩:=Qw8 B)
    |(obtain⟨F,O,W,X,Y,t,u,u7,u8,u9,rfl⟩:=Qu1 C;simp only[Ty.sz,Cc,Bj]at B;obtain⟨G,P,a,d,f,y,z,c7,c8,c9⟩:=Qw0 B)
   clear B C;cases hp:H x
   all_goals
    go_wp2_with fail
    refine jR (q.o _ _ _ r.o E (Rd.kept s.o (Am E))) λw1 g=> ?_;have i:=qh (Q0 E g);clear g;rw[hp];go_wp2
   ·go_roundw
    case rel=>exact⟨k+1,by omega,by go_num,(λj U A0=>(Im (In A0)).elim (J.o j U) (λe=>by subst e;rw[V.o];exact hp)),i⟩
    simp[By];omega
   go_ret;exact⟨Qt (Qf5 K J (by rw[V.o];exact hp)).symm,i.o⟩
  have HN:=qh (Q9a (p:=H) (xs:=xs) (k:=k) (by omega) J);go_wp2;go_ret;exact⟨Qt HN.o.symm,E.o⟩
def Qbv:(Qkp 231 Q5->Qop 204 Q5)/\(Qkp 166 Q5->Qop 120 Q5)/\(Qkp 168 Q5->Qop 124 Q5)/\(Qkp 162 Q4->Qop 117 Q4)/\(Qkp 202 Jl->Qop 169 Jl)/\(Qkp 183 Qh->Qop 145 Qh):=by
 refine⟨?_, ?_, ?_, ?_, ?_, ?_⟩
 all_goals
  intro B w v xs C P S h E F;have H:=qh h;have J:=qh F;have K:=qh E;have L:=qh B;clear h F E B;have M:=qh (Qcm C xs);(first|(go_enter func204,ntmps204)|(go_enter func120,ntmps120)|(go_enter func124,ntmps124)|(go_enter func117,ntmps117)|(go_enter func169,ntmps169)|(go_enter func145,ntmps145))
  go_wp2_with fail
  refine jR (L.o _ _ _ C _ _ H K J) λw1 G=> ?_;have O:=qh G;clear G;go_wp2;go_ret;exact⟨Vy M,O.o⟩
def Qdc:Qop 204 Q5:=Qbv.1 Q93.1
def Q4o:Qop 120 Q5:=Qbv.2.1 Q93.2.1
def Q7b:Qop 124 Q5:=Qbv.2.2.1 Q93.2.2.1
def Q2o:Qop 117 Q4:=Qbv.2.2.2.1 Q93.2.2.2.1
def Qfv:Qop 169 Jl:=Qbv.2.2.2.2.1 Q93.2.2.2.2.1
def Qos:Qop 145 Qh:=Qbv.2.2.2.2.2 Q93.2.2.2.2.2.1
def Qhv:Qkp 34 (.pair Qv (.pair .int (.pair .int .int))):=Q93.2.2.2.2.2.2
abbrev Qxn(f:Nat)(t:Ty):Prop:=∀(w:Bh) (vs us:List Bk) (x y:t.den),Rd t w vs x->Rd t w us y->Bv prog f #[.agg vs.toArray,.agg us.toArray] w (oR w (Qyo t x y))
abbrev Qyu(f:Nat)(t:Ty):Prop:=∀(w:Bh) (v1 v2:Bk) (xs ys:List t.den),Rd (.slice t) w [v1] xs->Rd (.slice t) w [v2] ys->Bv prog f #[v1,v2] w (oR w (Qyo (.slice t) xs ys))
def Q49:(Qxn 215 Q5->Qyu 179 Q5)/\(Qxn 84 Q5->Qyu 180 Q5)/\(Qxn 140 Q5->Qyu 85 Q5)/\(Qxn 181 Z7->Qyu 141 Z7)/\(Qxn 138 Q4->Qyu 82 Q4)/\(Qxn 139 Q4->Qyu 83 Q4)/\(Qxn 38 Jl->Qyu 12 Jl)/\(Qxn 86 Qh->Qyu 40 Qh)/\(Qxn 13 Qv->Qyu 46 Qv):=by
 refine⟨?_, ?_, ?_, ?_, ?_, ?_, ?_, ?_, ?_⟩
 all_goals
  intro E w v1 U xs ys K L;obtain⟨p,A7,rfl,A8,A2,g⟩:=(Ju K).gen;obtain⟨q,A9,rfl,AA,A3,h⟩:=(Ju L).gen;clear K L;unfold Bu at A2 A3;have H:=qh E;have HX:=qh g;have HY:=qh h;clear E g h;by_cases J:xs.length=ys;case' pos=>
   have A4:((xs:Int) !=(ys:Int))=Bm:=by simp[J]
   have j:=qh J;clear J
  case' neg=>
   have A4:((xs:Int) !=(ys:Int))=true:=by simp;omega
   have V:=D (xs≠ys) (λe=>J (by rw[e]));clear J
 all_goals(first|(go_enter func179,ntmps179)|(go_enter func180,ntmps180)|(go_enter func85,ntmps85)|(go_enter func141,ntmps141)|(go_enter func82,ntmps82)|(go_enter func83,ntmps83)|(go_enter func12,ntmps12)|(go_enter func40,ntmps40)|(go_enter func46,ntmps46))
 all_goals go_wp2
 all_goals first
  |(go_ret;exact⟨Y1 (by simp[V.o]),Ai _ _⟩)
  |skip
 all_goals
  go_loopw [5] (λi wr=>∃k:Nat,k<=xs/\i=I Z k/\xs.take k=ys.take k/\(w,wr)) (λi _=>xs.length-(By i).toNat);case atStart=>exact⟨0,Ak _,rfl,rfl,Ai _ _⟩
  obtain⟨k,hk,rfl,l,W⟩:=hrel;have m:=qh l;clear l;by_cases M:k<xs
  ·have X:k<ys:=by rw[<-j.o];exact M
   obtain⟨b,o,rfl,cs,F,B,Y⟩:=HX.o k M;obtain⟨b',o',rfl,AB,G,C,a⟩:=HY.o k X;generalize hxk:xs[k]=x at Y;generalize hyk:ys[k]=y at a;have n:=qh hxk;have r:=qh hyk;clear hxk hyk;have B:=B.kb W;have C:=C.kb W;have HR:=qh Y;have A5:=qh a;clear Y a
   first
    |(obtain⟨O,c,rfl⟩:=Qps F;obtain⟨P,v1,rfl⟩:=Qps G;simp only[Ty.sz,Cc,Bj]at B C;obtain⟨S,d⟩:=Qg6 B;obtain⟨T,f⟩:=Qg6 C)
    |(obtain⟨O,rfl⟩:=Qgp F;obtain⟨P,rfl⟩:=Qgp G;simp only[Ty.sz,Cc,Bj]at B C;have S:=Qa6 B;have T:=Qa6 C)
    |(obtain⟨O,c,s,t,rfl⟩:=Qnj F;obtain⟨P,v1,U,u,rfl⟩:=Qnj G;simp only[Ty.sz,Cc,Bj]at B C;obtain⟨S,d,v,z⟩:=Qqr B;obtain⟨T,f,d2,d3⟩:=Qqr C)
    |(obtain⟨O,c,s,t,u4,rfl⟩:=Qnn F;obtain⟨P,v1,U,u,v4,rfl⟩:=Qnn G;simp only[Ty.sz,Cc,Bj]at B C;obtain⟨S,d,v,z,c4⟩:=Q5v B;obtain⟨T,f,d2,d3,d4⟩:=Q5v C)
    |(obtain⟨O,c,s,t,u4,u5,u6,rfl⟩:=Qda F;obtain⟨P,v1,U,u,v4,v5,v6,rfl⟩:=Qda G;simp only[Ty.sz,Cc,Bj]at B C;obtain⟨S,d,v,z,c4,c5,c6⟩:=Qw8 B;obtain⟨T,f,d2,d3,d4,d5,d6⟩:=Qw8 C)
   clear B C F G;go_wp2_with fail
   go_still_tail 8,(by kernel_rfl)
   go_wp2_with fail
   refine jR (H.o _ _ _ _ _ (Rd.kept HR (Am (by go_grown))) (Rd.kept A5 (Am (by go_grown)))) λw1 A0=> ?_;have A1:Bp w w w1:=Q0 (by go_grown) A0;clear A0;by_cases E:x=y
   ·have A6:=Js E
    have H:=qh E;clear E;go_wp2;go_roundw;case rel=>exact⟨k+1,by omega,by go_num,Ys M X m.o (by rw[n.o,r.o,H.o]),A1⟩
    simp[By];omega
   have A6:=Vu E;have H:=qh E;clear E;go_wp2;go_ret;exact⟨Y1 (by simp[Yi M X (by rw[n.o,r.o];exact H.o)]),A1⟩
  have K:xs<=k:=by omega
  have L:ys<=k:=by rw[<-j.o];omega
  have V:=qh (Jq m.o K L);go_wp2;go_ret;exact⟨Y1 (by simp[V.o]),W⟩
def Q8v:Qyu 81 Ty.int/\Qyu 178 Q5/\Qyu 79 Q5/\Qyu 80 Z7:=by
 refine⟨?_, ?_, ?_, ?_⟩
 all_goals
  intro w v1 v2 xs ys L M;obtain⟨p,A5,rfl,A6,A0,T⟩:=(Ju L).gen;obtain⟨q,A7,rfl,A8,A1,U⟩:=(Ju M).gen;clear L M;unfold Bu at A0 A1;by_cases H:xs.length=ys;rotate_left
  ·have A2:((xs:Int) !=(ys:Int))=true:=by simp;omega
   have V:=D (xs≠ys) (λe=>H (by rw[e]));clear H T U;first|(go_enter func81,ntmps81)|(go_enter func178,ntmps178)|(go_enter func79,ntmps79)|(go_enter func80,ntmps80)
   go_wp2;go_ret;exact⟨Y1 (by simp[V.o]),Ai _ _⟩
  have A2:((xs:Int) !=(ys:Int))=Bm:=by simp[H]
  have f:=qh H;have HX:=qh T;have HY:=qh U;clear H T U;first|(go_enter func81,ntmps81)|(go_enter func178,ntmps178)|(go_enter func79,ntmps79)|(go_enter func80,ntmps80)
  go_wp2;go_loopw [13] (λi wr=>∃k:Nat,k<=xs/\i=I Z k/\Hd (xs.take k=ys.take k)/\Hd (w,wr)) (λi _=>xs.length-(By i).toNat);case atStart=>exact⟨0,Ak _,rfl,rfl,Ai _ _⟩
  obtain⟨k,hk,rfl,g,J⟩:=hrel;by_cases O:k<xs;rotate_left
  ·have L:xs<=k:=by omega
   have M:ys<=k:=by rw[<-f.o];omega
   have V:=qh (Jq g.o L M);go_wp2;go_ret;exact⟨Y1 (by simp[V.o]),J.o⟩
  have W:k<ys:=by rw[<-f.o];exact O
  obtain⟨b,o,rfl,cs,A3,C,P⟩:=HX.o k O;obtain⟨b',o',rfl,A9,A4,E,S⟩:=HY.o k W;generalize hxk:xs[k]=x at P;generalize hyk:ys[k]=y at S;have h:=qh hxk;have j:=qh hyk;clear hxk hyk A3 A4;have C:=C.kb J;have E:=E.kb J.o
  first
   |(obtain⟨_,_,rfl,⟨_,_,rfl,⟨rfl,l⟩,⟨rfl,m⟩⟩,⟨_,_,rfl,⟨rfl,n⟩,⟨rfl,r⟩⟩⟩:=P
     obtain⟨_,_,rfl,⟨_,_,rfl,⟨rfl,s⟩,⟨rfl,t⟩⟩,⟨_,_,rfl,⟨rfl,u⟩,⟨rfl,v⟩⟩⟩:=S;try simp only[Bw,Bs]at C E
     have K:=λw=>Qke l m n r s t u v w;clear l m n r s t u v;simp only[Ty.sz,Bj]at C E;obtain⟨z,c1,c2,c3⟩:=Qqr C;obtain⟨d0,d1,d2,d3⟩:=Qqr E)
   |(obtain⟨_,_,rfl,⟨rfl,X⟩,⟨rfl,Y⟩⟩:=P;obtain⟨_,_,rfl,⟨rfl,a⟩,⟨rfl,c⟩⟩:=S
     try simp only[Bw,Bs]at C E
     have K:=λw=>Q3a X Y a c w;have hp:=λw=>Qff X Y a c w;clear X Y a c;simp only[Ty.sz,Bj]at C E;obtain⟨z,c1⟩:=Qg6 C;obtain⟨d0,d1⟩:=Qg6 E)
   |(obtain⟨rfl,_⟩:=P;obtain⟨rfl,_⟩:=S
     simp only[Ty.sz,Cc]at C E;have z:=Qa6 C;have d0:=Qa6 E)
  clear C E;by_cases F:x=y
  ·first
    |(have B:(x.1==y.1 && x.2==y.2)=true:=by simp[F]
      rw[B]at K hp;clear B)
    |(have B:(x.1.1==y.1.1 && x.1.2==y.1.2 && x.2.1==y.2.1 && x.2.2==y.2.2)=true:=by simp[F]
      rw[B]at K;clear B)
    |have B:(x !=y)=Bm:=by simp[F]
   have d:=qh F;clear F;go_wp2;go_quiet(fail)
   go_wp2;go_roundw;case rel=>exact⟨k+1,by omega,by go_num,Ys O W g.o (by rw[h.o,j.o,d.o]),Q8 J _⟩
   simp[By];omega
  first
   |(have B:(x.1==y.1 && x.2==y.2)=Bm:=by rw[Fk];intro G;apply F;simp only[Bi,beq_iff_eq]at G;exact Prod.ext G.1 G.2
     rw[B]at K hp;clear B)
   |(have B:(x.1.1==y.1.1 && x.1.2==y.1.2 && x.2.1==y.2.1 && x.2.2==y.2.2)=Bm:=by rw[Fk];intro G;apply F;simp only[Bi,beq_iff_eq]at G;exact Prod.ext (Prod.ext G.1.1.1 G.1.1.2) (Prod.ext G.1.2 G.2)
     rw[B]at K;clear B)
   |have B:(x !=y)=true:=by simp[F]
  have d:=qh F;clear F;go_wp2;go_quiet(fail)
  go_wp2;go_ret;exact⟨Y1 (by simp[Yi O W (by rw[h.o,j.o];exact d.o)]),Q8 J _⟩
abbrev Qyq(f:Nat)(t:Ty):Prop:=∀(w:Bh) (vs:List Bk) (x:t.den) (left:Int),Rx t w vs x->0<=left->left<=1048576->Bv prog f #[.agg vs.toArray,left] w (oR w (Qyi left (Qyv t x)))
abbrev Qyp(f:Nat)(t:Ty):Prop:=∀(w:Bh) (v:Bk) (x:t.den) (left:Int),Rx t w [v] x->0<=left->left<=1048576->Bv prog f #[v,left] w (oR w (Qyi left (Qyv t x)))
def Qyq.yes{f t}(H:Qyq f t)(w vs x left)(h:Rx t w vs x)(B:0<=left)(C:left<=1048576)(E:(Qyv t x:Int)<=left):Bv prog f #[.agg vs.toArray,I Z left] w λe w'=>e=.returned (I Z (left-Qyv t x))/\(w,w'):=
 (H w vs x left h B C).mono λe w' ⟨F,hb⟩=>⟨by rw[F,Q2c E],hb⟩
theorem Qyq.no{f t}(H:Qyq f t)(w vs x left)(h:Rx t w vs x)(B:0<=left)(C:left<=1048576)(E:¬(Qyv t x:Int)<=left):Bv prog f #[.agg vs.toArray,I Z left] w λe w'=>e=.returned (I Z (-1))/\(w,w'):=
 (H w vs x left h B C).mono λe w' ⟨F,hb⟩=>⟨by rw[F,Q1k E],hb⟩
def Qyp.yes{f t}(H:Qyp f t)(w v x left)(h:Rx t w [v] x)(B:0<=left)(C:left<=1048576)(E:(Qyv t x:Int)<=left):Bv prog f #[v,I Z left] w λe w'=>e=.returned (I Z (left-Qyv t x))/\(w,w'):=
 (H w v x left h B C).mono λe w' ⟨F,hb⟩=>⟨by rw[F,Q2c E],hb⟩
theorem Qyp.no{f t}(H:Qyp f t)(w v x left)(h:Rx t w [v] x)(B:0<=left)(C:left<=1048576)(E:¬(Qyv t x:Int)<=left):Bv prog f #[v,I Z left] w λe w'=>e=.returned (I Z (-1))/\(w,w'):=
 (H w v x left h B C).mono λe w' ⟨F,hb⟩=>⟨by rw[F,Q1k E],hb⟩
def Qb6:(Qyq 97 Q4->Qyp 49 (.slice Q4))/\(Qyq 98 Q4->Qyp 50 (.slice Q4))/\(Qyq 23 Jl->Qyp 5 (.slice Jl))/\(Qyq 52 Qh->Qyp 25 (.slice Qh)):=by
 refine⟨?_, ?_, ?_, ?_⟩
 all_goals
  intro H w v xs left h h0 L;obtain⟨p,g,rfl,j,X,M⟩:=Q5d h;clear h;unfold Bu at X;have O:=qh H;have Y:=qh M;clear H M;by_cases n:(xs:Int)<=left
 all_goals(first|(go_enter func49,ntmps49)|(go_enter func50,ntmps50)|(go_enter func5,ntmps5)|(go_enter func25,ntmps25))
 all_goals go_wp2
 all_goals first
  |(go_ret;exact⟨Qt (by rw[Q0o,Q1k (by omega)]),Ai _ _⟩)
  |skip
 all_goals
  go_loopw [1,5] (λl i wr=>∃k:Nat,k<=xs/\i=I Z k/\l=I Z (left-xs.length-(Q87 _ (xs.take k):Nat))/\((xs:Int)+(Q87 _ (xs.take k):Nat)<=left)/\(w,wr)) (λ_ i _=>xs.length-(By i).toNat);case atStart=>exact⟨0,Ak _,rfl,by simp[Q87],by simp[Q87];omega,Ai _ _⟩
  obtain⟨k,q,rfl,rfl,a,P⟩:=hrel;have F:=Q9c (e:=_) xs k;by_cases S:k<xs
  ·obtain⟨b,o,rfl,cs,G,B,J⟩:=Y.o k S
   have T:=Q6i (e:=_) S;have E:=qh T;clear T;generalize hxk:xs[k]=x at J E;have r:=qh hxk;clear hxk;generalize Q87 _ (xs.take k)=m at *
   have U:=qh J;clear J;have B:=B.kb P
   first
    |(obtain⟨c,s,t,u,y,rfl⟩:=Qnn G;simp only[Ty.sz,Cc,Bj]at B;obtain⟨d,z,c2,c3,c4⟩:=Q5v B)
    |(obtain⟨c,rfl⟩:=Qgp G;simp only[Ty.sz,Cc,Bj]at B;have d:=Qa6 B)
   clear B F G;go_wp2_with fail
   by_cases V:(Qyv _ x:Int)<=left-xs.length-m
   ·refine(O.o.yes _ _ _ _ (Rx.kept U (Am (by go_grown))) (by omega) (by omega) V).mono ?_
    rintro e w1 ⟨rfl,C⟩;have K:Bp w w w1:=Q0 (by go_grown) C;clear C;go_wp2;go_roundw;case rel=>exact⟨k+1,by omega,by go_num,by rw[E.o];go_num,by rw[E.o];omega,K⟩
    simp[By];omega
   refine jR (O.o.no _ _ _ _ (Rx.kept U (Am (by go_grown))) (by omega) (by omega) V) λw1 C=> ?_;have K:Bp w w w1:=Q0 (by go_grown) C;clear C;go_wp2;go_ret;have F:=Q9c (e:=_) xs (k+1);exact⟨Qt (by rw[Q0o,Q1k (by rw[E.o]at F;omega)]),K⟩
  have L:xs<=k:=by omega
  have W:=qh (Qoy (e:=_) L);have f:=a;rw[W.o]at f;go_wp2;go_ret;exact⟨Qt (by rw[W.o,Q0o,Q2c (by omega)];omega),P⟩
def Qcn:Qyp 100 (.slice .int)/\Qyp 149 (.slice Q5)/\Qyp 150 (.slice Q5)/\Qyp 51 (.slice Q5)/\Qyp 99 (.slice Z7):=by
 refine⟨?_, ?_, ?_, ?_, ?_⟩
 all_goals
  intro w v xs left h h0 h1;obtain⟨p,G,rfl,H,C,E⟩:=Q5d h;clear h E;unfold Bu at C;have B:=qh (Zy rfl xs);by_cases F:(xs:Int)<=left
 all_goals
  first|(go_enter func100,ntmps100)|(go_enter func149,ntmps149)|(go_enter func150,ntmps150)|(go_enter func51,ntmps51)|(go_enter func99,ntmps99)
  go_wp2;go_ret;first|exact⟨Qt (by rw[B.o,Q2c F]),Ai _ _⟩|exact⟨Qt (by rw[B.o,Q1k (by omega)]),Ai _ _⟩
def Qhi(f:Nat)(a:Bk)(w:Bh)(n:Nat):Prop:=∀w' left,Bp w w w'->0<=left->left<=1048576->Bv prog f #[a,I Z left] w' λe w''=>e=.returned (I Z (Qyi left n))/\Bp w'.heap.size w' w''
def Q85{f t w v x}(H:Qyp f t)(h:Rx t w [v] x):Qhi f v w (Qyv t x):=λw' left B C E=>H w' v x left (h.kb B) C E
def Qeh{f t w vs x}(H:Qyq f t)(h:Rx t w vs x):Qhi f (.agg vs.toArray) w (Qyv t x):=λw' left B C E=>H w' vs x left (h.kb B) C E
def Qdh{l r n}(h:Qyi l n=r):(r=l-n/\(n:Int)<=l)\/(r= -1/\¬(n:Int)<=l):=by
 by_cases B:(n:Int)<=l
 ·exact .inl ⟨by rw[<-h,Q2c B],B⟩
 exact .inr ⟨by rw[<-h,Q1k B],B⟩
def Qat:Qyq 97 Q4/\Qyq 98 Q4/\Qyq 52 Qh/\(Qyp 49 (.slice Q4)->Qyq 23 Jl)/\(Qyp 50 (.slice Q4)->Qyq 24 Qq)/\(Qyq 24 Qq->Qyp 25 (.slice Qh)->Qyq 6 Qv):=by
 obtain⟨L,V,W,S,X⟩:=Qcn;refine⟨?_, ?_, ?_,λH=> ?_,λH=> ?_,λH K=> ?_⟩;all_goals intro w vs x left h h0 h1
 all_goals
  first
   |(obtain⟨_,_,rfl,⟨rfl,E⟩,⟨_,_,rfl,⟨rfl,M⟩,⟨_,_,rfl,⟨rfl,T⟩,⟨_,_,rfl,F,G⟩⟩⟩⟩:=h
     have B:Hd ((Qyv Q4 x:Int)=Qyv (.slice .int) x.2.2.2.1+(Qyv (.slice Q5) x.2.2.2.2+0)):=by unfold Hd;simp[Qyv]
     obtain⟨_,rfl,C⟩:=Q0v F;obtain⟨_,rfl,O⟩:=Q0v G)
   |(obtain⟨_,_,rfl,⟨rfl,E⟩,⟨_,_,rfl,⟨rfl,M⟩,⟨_,_,rfl,T,⟨_,_,rfl,F,G⟩⟩⟩⟩:=h
     have B:Hd ((Qyv Qh x:Int)=Qyv (.slice Q5) x.2.2.1+(Qyv (.slice Z7) x.2.2.2.1+(Qyv (.slice .int) x.2.2.2.2+0))):=by unfold Hd;simp[Qyv];try omega
     obtain⟨_,rfl,U⟩:=Q0v T;obtain⟨_,rfl,C⟩:=Q0v F;obtain⟨_,rfl,O⟩:=Q0v G;have P:=qh (Cj (Q85 S U) (Cj (Q85 X C) (Cj (Q85 L O) trivial))))
   |(obtain⟨_,_,rfl,E,⟨_,_,rfl,⟨rfl,M⟩,⟨_,_,rfl,⟨_,_,rfl,⟨rfl,G⟩,⟨rfl,d⟩⟩,F⟩⟩⟩:=h
     have B:Hd ((Qyv Qq x:Int)=Qyv (.slice Q4) x.1+(Qyv (.slice Q5) x.2.2.2+0)):=by unfold Hd;simp[Qyv];try omega
     obtain⟨_,rfl,U⟩:=Q0v E;obtain⟨_,rfl,C⟩:=Q0v F;have P:=qh (Cj (Q85 H U) (Cj (Q85 S C) trivial)))
   |(obtain⟨_,_,rfl,E,⟨_,_,rfl,M,⟨rfl,T⟩⟩⟩:=h
     have B:Hd ((Qyv Qv x:Int)=Qyv Qq x.1+(Qyv (.slice Qh) x.2.1+0)):=by unfold Hd;simp[Qyv];try omega
     obtain⟨_,rfl,Y⟩:=Q0v M;have P:=qh (Cj (Qeh H E) (Cj (Q85 K Y) trivial));obtain⟨_,_,rfl,C,⟨_,_,rfl,⟨rfl,G⟩,⟨_,_,rfl,⟨_,_,rfl,⟨rfl,f⟩,⟨rfl,g⟩⟩,a⟩⟩⟩:=E;obtain⟨_,rfl,-⟩:=Q0v C;obtain⟨_,rfl,-⟩:=Q0v a)
   |(obtain⟨_,rfl,C⟩:=Q0v h
     have B:Hd ((Qyv Jl x:Int)=Qyv (.slice Q4) x+0):=by unfold Hd;simp
     have P:=qh (Cj (Q85 H C) trivial))
 have P:=qh (Cj (Q85 L C) (Cj (Q85 V O) trivial));rotate_left;have P:=qh (Cj (Q85 L C) (Cj (Q85 W O) trivial));rotate_right
 all_goals
  clear L V W S X;try simp only[Bw,Bs]at *
  generalize Qyv _ _=n0 at B P;try generalize Qyv _ _=n1 at B P
  try generalize Qyv _ _=n2 at B P
 all_goals
  first|(go_enter func97,ntmps97)|(go_enter func98,ntmps98)|(go_enter func52,ntmps52)|(go_enter func23,ntmps23)|(go_enter func24,ntmps24)|(go_enter func6,ntmps6)
  go_wp2_with fail
  iterate 3
   first
    |(refine(P.o.1 _ _ (by go_grown) (by omega) (by omega)).mono ?_
      rintro e w1 ⟨rfl,J⟩;generalize hr:Qyi _ _=r;obtain⟨i,j⟩:=Vk J;have b:Bp w w w1:=Q0 (by go_grown) J;have k:w.heap.size<w1:=by have:=J.size;(try simp at this);omega
      replace P:=qh P.o.2;rcases Qdh hr with⟨rfl,c⟩|⟨rfl,c⟩;rotate_left
      ·clear J hr;go_wp2;go_ret;exact⟨Qt (by rw[Q1k];rw[B.o];omega),b⟩
      clear J hr;go_wp2_with fail)
    |skip
  go_ret;exact⟨Qt (by rw[Q2c (by rw[B.o];omega),B.o];try omega),by go_grown⟩
def Ql2:Qyp 5 (.slice Jl):=Qb6.2.2.1 (Qat.2.2.2.1 (Qb6.1 Qat.1))
def Qb4:Qyq 6 Qv:=Qat.2.2.2.2.2 (Qat.2.2.2.2.1 (Qb6.2.1 Qat.2.1)) (Qb6.2.2.2 Qat.2.2.1)
def Q8j{w vs x F}(h:Ow Q5 w vs x F):vs=[I Z x.1,I Z x.2]:=by
 obtain⟨_,_,_,_,rfl,_,⟨rfl,_,_⟩,⟨rfl,_,_⟩⟩:=h;exact rfl
def Qr8{w vs x F}(h:Ow Z7 w vs x F):vs=[I Z x.1.1,I Z x.1.2,I Z x.2.1,I Z x.2.2]:=by
 obtain⟨_,_,_,_,rfl,_,⟨_,_,_,_,rfl,_,⟨rfl,_,_⟩,⟨rfl,_,_⟩⟩,⟨_,_,_,_,rfl,_,⟨rfl,_,_⟩,⟨rfl,_,_⟩⟩⟩:=h;exact rfl
def Qmv{w vs x F}(h:Ow Q4 w vs x F):∃(p0 B:Option Addr) (C E:Nat),vs=[I Z x.1,I Z x.2.1,I Z x.2.2.1,A p0 x.2.2.2.1 C,A B x.2.2.2.2 E]:=by
 obtain⟨_,_,_,_,rfl,_,⟨rfl,_,_⟩,⟨_,_,_,_,rfl,_,⟨rfl,_,_⟩,⟨_,_,_,_,rfl,_,⟨rfl,_,_⟩,⟨_,_,_,_,rfl,_,G,H⟩⟩⟩⟩:=h;obtain⟨q0,J,rfl,_⟩:=V5 G;obtain⟨q1,K,rfl,_⟩:=V5 H;simp_all
def Qsm{w vs x F}(h:Ow Jl w vs x F):∃(p0:Option Addr) (B:Nat),vs=[A p0 x B]:=by
 grind[V5]
def Qje{w vs x F}(h:Ow Qq w vs x F):∃(p0 B:Option Addr) (C E:Nat),vs=[A p0 x.1 C,x.2.1,x.2.2.1.1,x.2.2.1.2,A B x.2.2.2 E]:=by
 obtain⟨_,_,_,_,rfl,_,G,⟨_,_,_,_,rfl,_,⟨rfl,_,_⟩,⟨_,_,_,_,rfl,_,⟨_,_,_,_,rfl,_,⟨rfl,_,_⟩,⟨rfl,_,_⟩⟩,H⟩⟩⟩:=h;obtain⟨q0,J,rfl,_⟩:=V5 G;obtain⟨q1,K,rfl,_⟩:=V5 H;simp_all
def Qk4{w vs x F}(h:Ow Qh w vs x F):∃(p0 B C:Option Addr) (E G H:Nat),vs=[I Z x.1,I Z x.2.1,A p0 x.2.2.1 E,A B x.2.2.2.1 G,A C x.2.2.2.2 H]:=by
 obtain⟨_,_,_,_,rfl,_,⟨rfl,_,_⟩,⟨_,_,_,_,rfl,_,⟨rfl,_,_⟩,⟨_,_,_,_,rfl,_,J,⟨_,_,_,_,rfl,_,K,L⟩⟩⟩⟩:=h;obtain⟨q0,M,rfl,_⟩:=V5 J;obtain⟨q1,O,rfl,_⟩:=V5 K;obtain⟨P,S,rfl,_⟩:=V5 L;simp_all
abbrev Qye(f:Nat)(t:Ty):Prop:=∀(w:Bh) (vs:List Bk) (x:t.den),Rx t w vs x->Qyv t x<=1048576->Bv prog f #[.agg vs.toArray] w (Q2w t w x)
abbrev Qyt(f:Nat)(t:Ty):Prop:=∀(w:Bh) (v:Bk) (xs:t.den),Rx t w [v] xs->Qyv t xs<=1048576->Bv prog f #[v] w (Qnq t w xs)
abbrev Qyd(s e:TypeId)(t:Ty):Prop:=∀n:Nat,n<=1048576->∃cur:Array Bk,cur.size=n * t.sz/\∀w:Bh,(Instr.makeSlice s (n:Int) (n:Int)).run prog w=.ok (A (R (w,0)) n n) (w.alloc (.cells cur e))
def Qxe{s e t z b}(h:(prog.info? e).map (λi=>(i.zero,i.size,i.bytes))=R (R z,t.sz,b))(C:prog.underlying s=R (.slice e))(E:b<=200)(M:z.cells.size=t.sz):Qyd s e t:=λn F=>by
 obtain⟨G,H,J,K,L⟩:=info_parts h;refine⟨Ds z.cells (n * t.sz),size_madeCells _ _,λw=> ?_⟩;have B:=run_make (P:=prog) w s e G z C H J Z Z (n:Int) (n:Int) (by omega) (by omega) (by rw[L];have:=Nat.mul_le_mul F E;first|omega|(rw[Nat.mul_comm]at *;omega)) (by omega);rw[K]at B;simpa using B
def Q48:(Qye 193 Q5->Qyd 151 207 Q5->Qyt 157 (.slice Q5))/\(Qye 65 Q5->Qyd 121 40 Q5->Qyt 158 (.slice Q5))/\(Qye 113 Q5->Qyd 41 143 Q5->Qyt 66 (.slice Q5))/\(Qye 159 Z7->Qyd 114 146 Z7->Qyt 114 (.slice Z7))/\(Qye 111 Q4->Qyd 77 153 Q4->Qyt 63 (.slice Q4))/\(Qye 112 Q4->Qyd 39 172 Q4->Qyt 64 (.slice Q4))/\(Qye 29 Jl->Qyd 37 79 Jl->Qyt 8 (.slice Jl))/\(Qye 67 Qh->Qyd 44 116 Qh->Qyt 31 (.slice Qh)):=by
 refine⟨?_, ?_, ?_, ?_, ?_, ?_, ?_, ?_⟩
 all_goals
  intro H Y w v xs h s;obtain⟨p,A4,rfl,A5,t,a⟩:=Q5d h;clear h;unfold Bu at t;rw[Q0o]at s;have u:Ca xs<=1048576:=by omega
  obtain⟨y,G,z⟩:=Y _ u;have HE:=qh H;have HC:=qh G;have HX:=qh a;clear H G a Y;have HS:=qh (λT=>Jv.start (T:=T) (xs:=xs) (B:=w) (Bg w (.cells y T)) HC (Aj _))
 all_goals(first|(go_enter func157,ntmps157)|(go_enter func158,ntmps158)|(go_enter func66,ntmps66)|(go_enter func114,ntmps114)|(go_enter func63,ntmps63)|(go_enter func64,ntmps64)|(go_enter func8,ntmps8)|(go_enter func31,ntmps31))
 all_goals go_wp2
 all_goals
  go_loopw [4] (λi wr=>∃k:Nat,k<=xs/\i=I Z k/\Hd (Jv _ _ w w xs xs k wr)/\(w,wr)) (λi _=>xs.length-(By i).toNat);case atStart=>exact⟨0,Ak _,rfl,HS.o _,by go_grown⟩
  obtain⟨k,hk,rfl,O,c⟩:=hrel;clear z;by_cases K:k<xs
  ·obtain⟨b,o,rfl,cs,G,C,P⟩:=HX.o k K
   have d:Qyv _ xs[k]<=1048576:=by have h1:=Q6i K;have h2:=Q9c xs (k+1);omega
   generalize hxk:xs[k]=x at P d;have A0:=qh hxk;clear hxk;have HR:=qh P;clear P;have C:=C.kb c
   first
    |(obtain⟨S,f,rfl⟩:=Qps G;simp only[Ty.sz,Cc,Bj]at C;obtain⟨U,g⟩:=Qg6 C)
    |(obtain⟨S,f,a2,a3,rfl⟩:=Qnj G;simp only[Ty.sz,Cc,Bj]at C;obtain⟨U,g,c2,c3⟩:=Qqr C)
    |(obtain⟨S,f,a2,a3,a4,rfl⟩:=Qnn G;simp only[Ty.sz,Cc,Bj]at C;obtain⟨U,g,c2,c3,c4⟩:=Q5v C)
    |(obtain⟨S,rfl⟩:=Qgp G;simp only[Ty.sz,Cc,Bj]at C;have U:=Qa6 C)
   clear C G;go_wp2_with fail
   refine(HE.o _ _ _ (Rx.kept HR (Am (by go_grown))) d).mono ?_;rintro e w1 ⟨vs,rfl,A1,M⟩;have V:=qh (O.o.kept M);have A6:Bp w w w1:=Q0 (by go_grown) M;obtain⟨F,J,j⟩:=A1;have A2:=qh M;have HO:=qh J;have l:=qh j;clear j M
   first
    |obtain rfl:=Q8j J
    |obtain rfl:=Qr8 J
    |obtain⟨q0,q1,m,d1,rfl⟩:=Qmv J
    |obtain⟨q0,m,rfl⟩:=Qsm J
    |obtain⟨q0,q1,q2,m,d1,d2,rfl⟩:=Qk4 J
   obtain⟨us,L,E⟩:=V.o.next K
   first
    |(obtain⟨W,n,rfl⟩:=Qps L;simp only[Ty.sz,Cc,Bj]at E;obtain⟨X,q⟩:=Qg6 E)
    |(obtain⟨W,n,u2,u3,rfl⟩:=Qnj L;simp only[Ty.sz,Cc,Bj]at E;obtain⟨X,q,e2,e3⟩:=Qqr E)
    |(obtain⟨W,n,u2,u3,u4,rfl⟩:=Qnn L;simp only[Ty.sz,Cc,Bj]at E;obtain⟨X,q,e2,e3,e4⟩:=Q5v E)
    |(obtain⟨W,rfl⟩:=Qgp L;simp only[Ty.sz,Cc,Bj]at E;have X:=Qa6 E)
   have A7:=V.o.free;have A8:=V.o.lt;have r:=qh (Jv.step_at (w1:=w1) _ _ rfl O K K A2 (by rw[A0.o];exact HO.o) l.o.1 l.o.2);clear L E;go_wp2;go_roundw;case rel=>first|exact⟨k+1,by omega,by go_num,r.o,by go_grown⟩|exact⟨k+1,by omega,by go_num,(by have h:=r.o;rw[show Jl.sz=1 from rfl,Cc]at h;exact h),by go_grown⟩
   simp[By];omega
  have A3:xs<=k:=by omega
  go_wp2;go_ret;exact⟨_,rfl,O.o.done A3 rfl (by unfold Bu;omega),c⟩
def Qk5:(prog.info? 2).map (λi=>(i.zero,i.size,i.bytes))=R (R (I Z 0),1,8):=by kernel_rfl
def Qdz(w v xs)(h:Rx (Ty.slice Ty.int) w [v] xs)(X:Qyv (Ty.slice Ty.int) xs<=1048576):
  Bv prog 115 #[v] w (Qnq (Ty.slice Ty.int) w xs):=by
 obtain⟨p,q,rfl,r,Y,K⟩:=Q5d h;clear h;unfold Bu at Y;rw[Q0o]at X;have s:Ca xs<=1048576:=by omega
 obtain⟨a,L,M,O,S⟩:=info_parts Qk5;have c:∀w:Bh,(Instr.makeSlice 34 (xs:Int) (xs:Int)).run prog w=.ok (A (R (w,0)) xs xs) (w.alloc (.cells (Ds (I Z 0).cells (xs.length * 1)) 2)):=by intro w;have:=run_make (P:=prog) w 34 2 a (I Z 0) underlying34 L M Z Z (xs:Int) (xs:Int) (by omega) (by omega) (by rw[S];omega) (by omega);rw[O]at this;simpa using this
 have G:(Ds (I Z 0).cells (xs.length * 1)).size=xs * (Ty.int).sz:=size_madeCells _ _;generalize Ds (I Z 0).cells (xs.length * 1)=cur0 at *
 have d:=qh G;have f:=qh K;clear G K L M O S;have T:Jv (Ty.int) 2 w w xs xs 0 (w.alloc (.cells cur0 2)):=Jv.start (Bg w _) d.o (Aj _);have g:=qh T;clear T;go_enter func115,ntmps115;go_wp2;go_loopw [4] (λi wr=>∃k:Nat,k<=xs/\i=I Z k/\Hd (Jv (Ty.int) 2 w w xs xs k wr)/\(w,wr)) (λi _=>xs.length-(By i).toNat);case atStart=>exact⟨0,Ak _,rfl,g,by go_grown⟩
 obtain⟨k,t,rfl,B,U⟩:=hrel;clear c;by_cases C:k<xs
 ·obtain⟨b,o,rfl,cs,G,E,H⟩:=f.o k C
  have j:Qyv (Ty.int) xs[k]<=1048576:=by have u:=Q6i (e:=Ty.int) C;have y:=Q9c (e:=Ty.int) xs (k+1);omega
  generalize hxk:xs[k]=x at H j;have l:=qh hxk;clear hxk G;have z:=qh H;obtain⟨rfl,V⟩:=H;have m:=qh V;clear V;have E:=E.kb U;simp only[Ty.sz,Cc,Bj]at E;have c0:=Qa6 E;clear E;obtain⟨us,W,J⟩:=B.o.next C;obtain⟨t0,rfl⟩:=Qgp W;simp only[Ty.sz,Cc]at J;have e0:=Qa6 J;have A0:=B.o.free;clear W J;have A1:=B.o.lt;go_wp2;go_roundw;case rel=>exact⟨k+1,by omega,by go_num,Jv.step_at (w1:=wr) (F:=[]) k [x] (by simp[Ty.sz]) B C C (Ai _ _) (by rw[l.o];exact⟨rfl,m.o,rfl⟩) (by simp) (by simp),by go_grown⟩
  simp[By];omega
 have n:xs<=k:=by omega
 go_wp2;go_ret;exact⟨_,rfl,B.o.done n rfl (by unfold Bu;omega),U⟩
def Q8s:Qye 193 Q5/\Qye 65 Q5/\Qye 113 Q5:=by
 refine⟨?_, ?_, ?_⟩
 all_goals
  intro w vs x h E;obtain⟨_,_,rfl,⟨rfl,B⟩,⟨rfl,C⟩⟩:=h;try simp only[Bw,Bs]at *
  (first|(go_enter func193,ntmps193)|(go_enter func65,ntmps65)|(go_enter func113,ntmps113))
  go_wp2_with fail
  refine Ce (v:=.agg #[x.1,x.2]) (by first|simp[results,results193,go_sem]|simp[results,results65,go_sem]|simp[results,results113,go_sem]) rfl ?_;refine⟨[x.1,x.2],rfl,Q2q.new (Q2q.pair (Q2q.int B w) (Q2q.int C w)) (by simp;omega),by go_grown⟩
def Qn5:(prog.info? 207).map (λi=>(i.zero,i.size,i.bytes))=R (R (Dl #[(),()]),2,16):=by kernel_rfl
def Qpj:Qyt 157 (.slice Q5):=Q48.1 Q8s.1 (Qxe Qn5 underlying151 (by decide) rfl)
def Qm4:(prog.info? 40).map (λi=>(i.zero,i.size,i.bytes))=R (R (Dl #[(),()]),2,16):=by kernel_rfl
def Qog:Qyt 158 (.slice Q5):=Q48.2.1 Q8s.2.1 (Qxe Qm4 underlying121 (by decide) rfl)
def Qnv:(prog.info? 143).map (λi=>(i.zero,i.size,i.bytes))=R (R (Dl #[(),()]),2,16):=by kernel_rfl
def Qil:Qyt 66 (.slice Q5):=Q48.2.2.1 Q8s.2.2 (Qxe Qnv underlying41 (by decide) rfl)
def Qhs(f:Nat)(a:Bk)(w:Bh)(R:Bh->Ending->Bh->Prop):Prop:=∀w',Bp w w w'->Bv prog f #[a] w' (R w')
def Q7h{f t w v x}(H:Qyt f t)(h:Rx t w [v] x)(B:Qyv t x<=1048576):Qhs f v w λw'=>Qnq t w' x:=λw' C=>H w' v x (h.kb C) B
def Qc6{f t w vs x}(H:Qye f t)(h:Rx t w vs x)(B:Qyv t x<=1048576):Qhs f (.agg vs.toArray) w λw'=>Q2w t w' x:=λw' C=>H w' vs x (h.kb C) B
theorem Qah:Qye 111 Q4/\Qye 112 Q4/\Qye 159 Z7/\(Qyt 63 (.slice Q4)->Qye 29 Jl)/\(Qyt 64 (.slice Q4)->Qye 30 Qq)/\(Qyt 114 (.slice Z7)->Qye 67 Qh)/\(Qye 30 Qq->Qyt 31 (.slice Qh)->Qye 9 Qv):=by
 refine⟨?_, ?_, ?_,λH=> ?_,λH=> ?_,λH=> ?_,λH K=> ?_⟩
 all_goals
  intro w vs x h hz;try simp only[Vi,Vn]at hz
 any_goals
  obtain⟨_,_,rfl,⟨rfl,u⟩,⟨_,_,rfl,⟨rfl,V⟩,⟨_,_,rfl,⟨rfl,j⟩,⟨_,_,rfl,W,y⟩⟩⟩⟩:=h;obtain⟨_,rfl,B⟩:=Q0v W;obtain⟨_,rfl,k⟩:=Q0v y
 case' refine_1=>have P:=qh (Cj (Q7h Qdz B (by omega)) (Cj (Q7h Qpj k (by omega)) trivial))
 case' refine_2=>have P:=qh (Cj (Q7h Qdz B (by omega)) (Cj (Q7h Qog k (by omega)) trivial))
 case' refine_3=>obtain⟨_,_,rfl,E,l⟩:=h;have P:=qh (Cj (Qc6 Q8s.2.1 E (by simp only[Vi,Vn];omega)) (Cj (Qc6 Q8s.2.1 l (by simp only[Vi,Vn];omega)) trivial));obtain⟨_,_,rfl,⟨rfl,j⟩,⟨rfl,AB⟩⟩:=E;obtain⟨_,_,rfl,⟨rfl,z⟩,⟨rfl,A9⟩⟩:=l
 case' refine_4=>obtain⟨_,rfl,B⟩:=Q0v h;have P:=qh (Cj (Q7h H B (by omega)) trivial)
 case' refine_5=>obtain⟨_,_,rfl,E,⟨_,_,rfl,⟨rfl,V⟩,⟨_,_,rfl,m,W⟩⟩⟩:=h;obtain⟨_,rfl,b1⟩:=Q0v E;obtain⟨_,rfl,B⟩:=Q0v W;have P:=qh (Cj (Q7h H b1 (by omega)) (Cj (Qc6 Q8s.2.1 m (by simp only[Vi,Vn];omega)) (Cj (Q7h Qil B (by omega)) trivial)));obtain⟨_,_,rfl,⟨rfl,z⟩,⟨rfl,A9⟩⟩:=m
 case' refine_6=>obtain⟨_,_,rfl,⟨rfl,u⟩,⟨_,_,rfl,⟨rfl,V⟩,⟨_,_,rfl,m,⟨_,_,rfl,W,y⟩⟩⟩⟩:=h;obtain⟨_,rfl,b3⟩:=Q0v m;obtain⟨_,rfl,B⟩:=Q0v W;obtain⟨_,rfl,k⟩:=Q0v y;have P:=qh (Cj (Q7h Qil b3 (by omega)) (Cj (Q7h H B (by omega)) (Cj (Q7h Qdz k (by omega)) trivial)))
 case' refine_7=>obtain⟨_,_,rfl,E,⟨_,_,rfl,l,⟨rfl,j⟩⟩⟩:=h;obtain⟨_,rfl,b2⟩:=Q0v l;have P:=qh (Cj (Qc6 H E (by simp only[Vi,Vn];omega)) (Cj (Q7h K b2 (by omega)) trivial));obtain⟨_,_,rfl,B,⟨_,_,rfl,⟨rfl,z⟩,⟨_,_,rfl,⟨_,_,rfl,⟨rfl,a8⟩,⟨rfl,a9⟩⟩,b7⟩⟩⟩:=E;obtain⟨_,rfl,-⟩:=Q0v B;obtain⟨_,rfl,-⟩:=Q0v b7
 all_goals
  try simp only[Bw,Bs]at *
  (first|(go_enter func111,ntmps111)|(go_enter func112,ntmps112)|(go_enter func159,ntmps159)|(go_enter func29,ntmps29)|(go_enter func30,ntmps30)|(go_enter func67,ntmps67)|(go_enter func9,ntmps9))
  go_wp2_with fail
  refine(P.o.1 _ (by go_grown)).mono ?_;rintro e w1 ⟨v1,rfl,Y,a⟩;first|(obtain⟨q1,C,rfl⟩:=V6 Y)|(obtain rfl:=Q8j Y.choose_spec.1)|(obtain⟨n,o,p,q,rfl⟩:=Qje Y.choose_spec.1)
  obtain⟨F,AC⟩:=Vk a;have AD:Bp w w w1:=Q0 (by go_grown) a;have A0:=a.size;simp at A0;have AE:w.heap.size<w1:=by omega
  have G:w.heap.size+1<w1.heap.size:=by omega
  have J:w.heap.size+2<w1.heap.size:=by omega
  have L:=qh Y;have AA:=qh a;replace P:=qh P.o.2;clear Y a A0;go_wp2_with fail
 any_goals
  refine(P.o.1 _ (by go_grown)).mono ?_;rintro e w2 ⟨v2,rfl,b,c⟩;first|(obtain⟨M,O,rfl⟩:=V6 b)|(obtain rfl:=Q8j b.choose_spec.1)|(obtain⟨n,o,p,q,rfl⟩:=Qje b.choose_spec.1)
  obtain⟨S,AF⟩:=Vk c;have AG:Bp w w w2:=Q0 (by go_grown) c;have A1:=c.size;simp at A1;have AH:w.heap.size<w2:=by omega
  have T:w.heap.size+1<w2.heap.size:=by omega
  have U:w.heap.size+2<w2.heap.size:=by omega
  have d:=qh b;have A2:=qh c;replace P:=qh P.o.2;clear b c A1;go_wp2_with fail
 any_goals
  refine(P.o.1 _ (by go_grown)).mono ?_;rintro e r ⟨v3,rfl,f,g⟩;first|(obtain⟨s,t,rfl⟩:=V6 f)|(obtain rfl:=Q8j f.choose_spec.1)|(obtain⟨n,o,p,q,rfl⟩:=Qje f.choose_spec.1)
  obtain⟨A3,AI⟩:=Vk g;have AJ:Bp w w r:=Q0 (by go_grown) g;have A4:=g.size;simp at A4;have AK:w.heap.size<r:=by omega
  have A5:w.heap.size+1<r.heap.size:=by omega
  have A6:w.heap.size+2<r.heap.size:=by omega
  have A7:=qh f;have A8:=qh g;replace P:=qh P.o.2;clear f g A4;go_wp2_with fail
 all_goals
  first
   |(refine Ce (v:=.agg #[I Z x.1,I Z x.2.1,I Z x.2.2.1,A q1 x.2.2.2.1 C,A M x.2.2.2.2 O]) (by first|simp[results,results111,go_sem,F,G,J,S,T,U]|simp[results,results112,go_sem,F,G,J,S,T,U]) rfl ⟨[I Z x.1,I Z x.2.1,I Z x.2.2.1,A q1 x.2.2.2.1 C,A M x.2.2.2.2 O],rfl,Q2q.new (Q2q.pair (Q2q.int u w) (Q2q.pair (Q2q.int V w) (Q2q.pair (Q2q.int j w) (Q2q.pair (Q2q.fr (X:=λi=>i=w+1\/i=w+2) L ?_ ?_ w ?_ ?_) (Q2q.fr (X:=λi=>i=w+1\/i=w+2) d.o ?_ ?_ w1 ?_ ?_))))) ?_, ?_⟩)
   |(refine Ce (v:=.agg #[I Z x.1.1,I Z x.1.2,I Z x.2.1,I Z x.2.2]) (by simp[results,results159,go_sem,F,G,J,S,T,U]) rfl ⟨[I Z x.1.1,I Z x.1.2,I Z x.2.1,I Z x.2.2],rfl,Q2q.new (Q2q.pair (Q2q.fr (X:=λi=>i=w+1\/i=w+2) L ?_ ?_ w ?_ ?_) (Q2q.fr (X:=λi=>i=w+1\/i=w+2) d.o ?_ ?_ w1 ?_ ?_)) ?_, ?_⟩)
   |(refine Ce (v:=.agg #[A q1 (Ca x) C]) (by simp[results,results29,go_sem,F,G,J]) rfl ⟨[A q1 (Ca x) C],rfl,Q2q.new (Q2q.fr (X:=λi=>i=w+1\/i=w+2) L ?_ ?_ w ?_ ?_) ?_, ?_⟩)
   |(refine Ce (v:=.agg #[A q1 x.1 C,I Z x.2.1,I Z x.2.2.1.1,I Z x.2.2.1.2,A s x.2.2.2 t]) (by simp[results,results30,go_sem,F,G,J,S,T,U,A3,A5,A6]) rfl ⟨[A q1 x.1 C,I Z x.2.1,I Z x.2.2.1.1,I Z x.2.2.1.2,A s x.2.2.2 t],rfl,Q2q.new (Q2q.pair (Q2q.fr (X:=λi=>i=w+1\/i=w+2) L ?_ ?_ w ?_ ?_) (Q2q.pair (Q2q.int V w1) (Q2q.pair (Q2q.fr (X:=λi=>i=w+1\/i=w+2) d.o ?_ ?_ w1 ?_ ?_) (Q2q.fr (X:=λi=>i=w+1\/i=w+2) A7 ?_ ?_ w2 ?_ ?_)))) ?_, ?_⟩)
   |(refine Ce (v:=.agg #[I Z x.1,I Z x.2.1,A q1 x.2.2.1 C,A M x.2.2.2.1 O,A s x.2.2.2.2 t]) (by simp[results,results67,go_sem,F,G,J,S,T,U,A3,A5,A6]) rfl ⟨[I Z x.1,I Z x.2.1,A q1 x.2.2.1 C,A M x.2.2.2.1 O,A s x.2.2.2.2 t],rfl,Q2q.new (Q2q.pair (Q2q.int u w) (Q2q.pair (Q2q.int V w) (Q2q.pair (Q2q.fr (X:=λi=>i=w+1\/i=w+2) L ?_ ?_ w ?_ ?_) (Q2q.pair (Q2q.fr (X:=λi=>i=w+1\/i=w+2) d.o ?_ ?_ w1 ?_ ?_) (Q2q.fr (X:=λi=>i=w+1\/i=w+2) A7 ?_ ?_ w2 ?_ ?_))))) ?_, ?_⟩)
   |(refine Ce (v:=.agg #[A n x.1.1 p,I Z x.1.2.1,I Z x.1.2.2.1.1,I Z x.1.2.2.1.2,A o x.1.2.2.2 q,A M x.2.1 O,I Z x.2.2]) (by simp[results,results9,go_sem,F,G,J,S,T,U]) rfl ⟨[A n x.1.1 p,I Z x.1.2.1,I Z x.1.2.2.1.1,I Z x.1.2.2.1.2,A o x.1.2.2.2 q,A M x.2.1 O,I Z x.2.2],rfl,Q2q.new (Q2q.pair (Q2q.fr (X:=λi=>i=w+1\/i=w+2) L ?_ ?_ w ?_ ?_) (Q2q.pair (Q2q.fr (X:=λi=>i=w+1\/i=w+2) d.o ?_ ?_ w1 ?_ ?_) (Q2q.int j w2))) ?_, ?_⟩)
 all_goals first
  |omega
  |(simp;done)
  |(simp;omega)
  |(intro i hi;(try simp);omega)
  |(have:=AA.o.size;simpa using this)
  |(have:=A2.o.size;simpa using this)
  |(have:=A8.o.size;simpa using this)
  |((repeat(with_reducible first|exact Q1.refl _ _|refine Q1.setCell ?_ (by simp) _|refine Q1.alloc ?_ _|refine Q1.call ?_ A2|refine Q1.call ?_ A8));done)
  |go_grown
def Qjz:(prog.info? 153).map (λi=>(i.zero,i.size,i.bytes))=R (R (Dl #[(),(),(),jN,jN]),5,72):=by kernel_rfl
def Qn4:Qyt 63 (.slice Q4):=Q48.2.2.2.2.1 Qah.1 (Qxe Qjz underlying77 (by decide) rfl)
def Qov:(prog.info? 79).map (λi=>(i.zero,i.size,i.bytes))=R (R (Dl #[jN]),1,24):=by kernel_rfl
def Qb5:Qyt 8 (.slice Jl):=Q48.2.2.2.2.2.2.1 (Qah.2.2.2.1 Qn4) (Qxe Qov underlying37 (by decide) rfl)
def Qml:(prog.info? 146).map (λi=>(i.zero,i.size,i.bytes))=R (R (Dl #[(),(),(),()]),4,32):=by kernel_rfl
def Qpi:Qyt 114 (.slice Z7):=Q48.2.2.2.1 Qah.2.2.1 (Qxe Qml underlying114 (by decide) rfl)
def Qns:(prog.info? 172).map (λi=>(i.zero,i.size,i.bytes))=R (R (Dl #[(),(),(),jN,jN]),5,72):=by kernel_rfl
def Qow:Qyt 64 (.slice Q4):=Q48.2.2.2.2.2.1 Qah.2.1 (Qxe Qns underlying39 (by decide) rfl)
def Qgy:(prog.info? 116).map (λi=>(i.zero,i.size,i.bytes))=R (R (Dl #[(),(),jN,jN,jN]),5,88):=by kernel_rfl
def Qk6:Qyt 31 (.slice Qh):=Q48.2.2.2.2.2.2.2 (Qah.2.2.2.2.2.1 Qpi) (Qxe Qgy underlying44 (by decide) rfl)
def Q43:Qye 9 Qv:=Qah.2.2.2.2.2.2 (Qah.2.2.2.2.1 Qow) Qk6
abbrev Qxm(f:Nat)(t:Ty):Prop:=∀(w:Bh) (v:Bk) (xs:List t.den) (F:List Nat) (k:Int),Ow (.slice t) w [v] xs F->F.Nodup->0<=k->k+(Y3 t xs:Nat)<=1000000000->Bv prog f #[v,I Z k] w λe w'=>e=.returned (I Z (k+(Y3 t xs:Nat)))/\Ow (.slice t) w' [v] (mk (.slice t) xs k) F/\Q1 (λc=>c∈F) w w'
def Q5u{a b w vs x ga gb F}(B:F=ga++gb)(C:Ow a w (vs.take a.sz) x.1 ga)(E:Ow b w (vs.drop a.sz) x.2 gb):Ow (.pair a b) w vs x F:=⟨_,_,ga,gb,(List.take_append_drop _ _).symm,B,C,E⟩
theorem Qfm:(True->True->True->Qxm 16 Ty.int)/\(True->True->True->Qxm 87 Q5)/\(True->True->True->Qxm 142 Q5)/\(True->True->True->Qxm 89 Q5)/\(True->True->True->Qxm 90 Z7)/\((Qxm 16 Ty.int)->(Qxm 87 Q5)->True->Qxm 41 Q4)/\((Qxm 16 Ty.int)->(Qxm 142 Q5)->True->Qxm 88 Q4)/\((Qxm 41 Q4)->True->True->Qxm 14 Jl)/\((Qxm 89 Q5)->(Qxm 90 Z7)->(Qxm 16 Ty.int)->Qxm 43 Qh)/\((Qxm 88 Q4)->(Qxm 89 Q5)->(Qxm 43 Qh)->Qxm 47 Qv):=by
 refine⟨?_, ?_, ?_, ?_, ?_, ?_, ?_, ?_, ?_, ?_⟩
 all_goals
  intro h1 h2 h3 w v xs F k h hF h0 hb;have H1:=qh h1;have H2:=qh h2;have H3:=qh h3;clear h1 h2 h3;obtain⟨p,AW,rfl,AX⟩:=h.gen;unfold Bu at AX;have HO:=qh h;have HF:=qh hF;clear h hF;(first|(go_enter func16,ntmps16)|(go_enter func87,ntmps87)|(go_enter func142,ntmps142)|(go_enter func89,ntmps89)|(go_enter func90,ntmps90)|(go_enter func41,ntmps41)|(go_enter func88,ntmps88)|(go_enter func14,ntmps14)|(go_enter func43,ntmps43)|(go_enter func47,ntmps47))
  go_wp2;go_loopw [1,5] (λkv iv wr=>∃i:Nat,i<=xs/\iv=I Z i/\kv=I Z (k+(Y3 _ (xs.take i):Nat))/\Hd (Ow (Ty.slice _) wr [A p xs AW] (Qlp _ xs k i) F)/\Hd (Q1 (λc=>c∈F) w wr)) (λ_ iv _=>xs.length-(By iv).toNat);case atStart=>exact⟨0,Ak _,rfl,by simp[Y3],by rw[Qq5];exact HO,Q1.refl _ _⟩
  obtain⟨i,hi,rfl,rfl,HW,AM⟩:=hrel;by_cases AA:i<xs;case neg=>
   have AN:xs<=i:=by omega
   have AY:=qh (Qhy AN);have AZ:=qh (Qqz xs k i AN);go_wp2;go_ret;exact⟨Qt (by rw[AY.o]),by rw[<-AZ.o];exact HW.o,AM.o⟩
  obtain⟨b,o,us,u,rfl,AO,B5,AP,hG,A4,B0,H,B6,M,AQ⟩:=Ow.focus HW HF i (by rw[Qis hi];exact AA);rw[Qt7 AA]at M;have AB:=Qhf AA;have AR:=Qqo xs (i+1);have AS:=qh (Qpw (k:=k) AA);generalize xs[i]=x at M AB AS;rw[AB]at AR;have HS:=qh AB;clear AB;have j:=qh AQ;have B1:=qh AP;have B2:=qh AO;clear AQ AP AO;generalize Y3 _ (xs.take i)=m at *
 all_goals
  first
   |(obtain⟨_,_,_,_,rfl,rfl,⟨_,_,u,_,rfl,rfl,C,⟨_,_,_,_,rfl,rfl,⟨rfl,_,rfl⟩,⟨_,_,_,l,rfl,rfl,⟨_,_,_,_,rfl,rfl,⟨rfl,_,rfl⟩,⟨rfl,_,rfl⟩⟩,J⟩⟩⟩,⟨_,_,y,_,rfl,rfl,O,⟨rfl,_,rfl⟩⟩⟩:=M
     obtain⟨p0,n,rfl,C⟩:=V5 C;obtain⟨p1,d1,rfl,J⟩:=V5 J;obtain⟨p2,d2,rfl,O⟩:=V5 O;try simp only[Bw,Bs,Cl,Co]at *
     have A5:=qh C;clear C;have AC:=qh J;clear J;have AI:=qh O;clear O;have P:Vh _ x=Y3 _ x.1.1+1+1+1+Y3 _ x.1.2.2.2+Y3 _ x.2.1+1:=by simp[Vh,Y3];try omega
     have AJ:0<=(Y3 _ x.1.1:Int):=by omega
     have AT:0<=(Y3 _ x.1.2.2.2:Int):=by omega
     have B3:0<=(Y3 _ x.2.1:Int):=by omega
     obtain⟨U,V,A6,W,A7,A8⟩:=Qys hG;obtain⟨Y,a,A9⟩:=Qyf A4;have AD:=qh U;have AK:=qh V;have AU:=qh A6;have z:=qh W;have AE:=qh A7;have AF:=qh A8;have L:=qh Y;have S:=qh a;have r:=qh A9;clear U V A6 W A7 A8 Y a A9;simp only[Ty.sz,Bj]at H;obtain⟨K,T,s,t,e4,e5,e6⟩:=Qw8 H)
   |(obtain⟨_,_,_,_,rfl,rfl,⟨rfl,_,rfl⟩,⟨_,_,_,_,rfl,rfl,⟨rfl,_,rfl⟩,⟨_,_,u,_,rfl,rfl,C,⟨_,_,l,y,rfl,rfl,J,O⟩⟩⟩⟩:=M
     obtain⟨p0,n,rfl,C⟩:=V5 C;obtain⟨p1,d1,rfl,J⟩:=V5 J;obtain⟨p2,d2,rfl,O⟩:=V5 O;try simp only[Bw,Bs,Cl,Co]at *
     have A5:=qh C;clear C;have AC:=qh J;clear J;have AI:=qh O;clear O;have P:Vh _ x=1+1+Y3 _ x.2.2.1+Y3 _ x.2.2.2.1+Y3 _ x.2.2.2.2:=by simp[Vh,Y3];try omega
     have AJ:0<=(Y3 _ x.2.2.1:Int):=by omega
     have AT:0<=(Y3 _ x.2.2.2.1:Int):=by omega
     have B3:0<=(Y3 _ x.2.2.2.2:Int):=by omega
     obtain⟨U,V,A6,W,A7,A8⟩:=Qys hG;obtain⟨Y,a,A9⟩:=Qyf A4;have AD:=qh U;have AK:=qh V;have AU:=qh A6;have z:=qh W;have AE:=qh A7;have AF:=qh A8;have L:=qh Y;have S:=qh a;have r:=qh A9;clear U V A6 W A7 A8 Y a A9;simp only[Ty.sz,Bj]at H;obtain⟨K,T,s,t,e4⟩:=Q5v H)
   |(obtain⟨_,_,_,_,rfl,rfl,⟨rfl,_,rfl⟩,⟨_,_,_,_,rfl,rfl,⟨rfl,_,rfl⟩,⟨_,_,_,_,rfl,rfl,⟨rfl,_,rfl⟩,⟨_,_,u,l,rfl,rfl,C,J⟩⟩⟩⟩:=M
     obtain⟨p0,n,rfl,C⟩:=V5 C;obtain⟨p1,d1,rfl,J⟩:=V5 J;try simp only[Bw,Bs,Cl,Co]at *
     have A5:=qh C;clear C;have AC:=qh J;clear J;have P:Vh _ x=1+1+1+Y3 _ x.2.2.2.1+Y3 _ x.2.2.2.2:=by simp[Vh,Y3];try omega
     have AJ:0<=(Y3 _ x.2.2.2.1:Int):=by omega
     have AT:0<=(Y3 _ x.2.2.2.2:Int):=by omega
     obtain⟨U,V,W⟩:=Qxw hG;obtain⟨Y,a⟩:=Qyr A4;have AD:=qh U;have AK:=qh V;have z:=qh W;have L:=qh Y;have S:=qh a;clear U V W Y a;simp only[Ty.sz,Bj]at H;obtain⟨K,T,s,t,e4⟩:=Q5v H)
   |(obtain⟨_,_,_,_,rfl,rfl,⟨_,_,_,_,rfl,rfl,⟨rfl,_,rfl⟩,⟨rfl,_,rfl⟩⟩,⟨_,_,_,_,rfl,rfl,⟨rfl,_,rfl⟩,⟨rfl,_,rfl⟩⟩⟩:=M
     try simp only[Bw,Bs,Cl,Co]at *
     have P:Vh _ x=1+1+1+1:=by simp[Vh,Y3];try omega
     simp only[Ty.sz,Bj]at H;obtain⟨K,T,s,t⟩:=Qqr H)
   |(obtain⟨_,_,_,_,rfl,rfl,⟨rfl,_,rfl⟩,⟨rfl,_,rfl⟩⟩:=M
     try simp only[Bw,Bs,Cl,Co]at *
     have P:Vh _ x=1+1:=by simp[Vh,Y3];try omega
     simp only[Ty.sz,Bj]at H;obtain⟨K,T⟩:=Qg6 H)
   |(obtain⟨rfl,_,rfl⟩:=M
     have P:Vh _ x=1:=by simp[Vh,Y3];try omega
     simp only[Ty.sz,Cc]at H;have K:=Qa6 H)
   |(have C:=M
     obtain⟨p0,n,rfl,C⟩:=V5 C;have A5:=qh C;clear C;have P:Vh _ x=Y3 Q4 x:=by rfl
     have AJ:0<=(Y3 _ x:Int):=by omega
     have AD:=qh hG;have L:=qh A4;simp only[Ty.sz,Cc]at H;have K:=Qa6 H)
  clear H B0 hG A4;rw[P]at AR;have B4:=qh P;clear P
 any_goals
  go_wp2_with fail
  refine(H1.o _ _ _ _ _ (Ow.frame (X:=λc=>c=b) A5 ?fr (λc B=>⟨A5.o.lt c B,λh=>L.o (h▸B)⟩)) AD (by omega) (by omega)).mono ?_;case fr=>(repeat(with_reducible first|exact Q1.refl _ _|refine Q1.setCell ?_ (by simp) _|refine Q1.trans ?_ (Q1.mono A0 (λc B=>by simp[B]))|refine Q1.trans ?_ (Q1.mono A1 (λc B=>by simp[B]))|refine Q1.trans ?_ (Q1.mono A2 (λc B=>by simp[B]))))
  rintro e w1 ⟨rfl,d,G⟩;have f:=G.size;try simp at f
  have f:b<w1:=by omega
  have AG:=λq=>Q1.cell G (b:=b) (by first|omega|(simp;omega)) L q;have hz:=λq=>Q1.frozen G (b:=b) (by first|omega|(simp;omega)) L q;have g:=qh d;have A0:=qh G;clear d G
 any_goals
  go_wp2_with fail
  refine(H2.o _ _ _ _ _ (Ow.frame (X:=λc=>c=b\/c∈u) AC ?fr (λc B=>⟨AC.o.lt c B,λE=>E.elim (λh=>S.o (h▸B)) (λh=>z.o c h B)⟩)) AK (by omega) (by omega)).mono ?_;case fr=>(repeat(with_reducible first|exact Q1.refl _ _|refine Q1.setCell ?_ (by simp) _|refine Q1.trans ?_ (Q1.mono A0 (λc B=>by simp[B]))|refine Q1.trans ?_ (Q1.mono A1 (λc B=>by simp[B]))|refine Q1.trans ?_ (Q1.mono A2 (λc B=>by simp[B]))))
  rintro e w2 ⟨rfl,d,G⟩;have f:=G.size;try simp at f
  have f:b<w2:=by omega
  have AL:=λq=>Q1.cell G (b:=b) (by first|omega|(simp;omega)) S q;have hz:=λq=>Q1.frozen G (b:=b) (by first|omega|(simp;omega)) S q;have A3:=qh d;have A1:=qh G;clear d G
 any_goals
  go_wp2_with fail
  refine(H3.o _ _ _ _ _ (Ow.frame (X:=λc=>c=b\/c∈u\/c∈l) AI ?fr (λc B=>⟨AI.o.lt c B,λE=>E.elim (λh=>r.o (h▸B)) (λE=>E.elim (λh=>AE.o c h B) (λh=>AF.o c h B))⟩)) AU (by omega) (by omega)).mono ?_;case fr=>(repeat(with_reducible first|exact Q1.refl _ _|refine Q1.setCell ?_ (by simp) _|refine Q1.trans ?_ (Q1.mono A0 (λc B=>by simp[B]))|refine Q1.trans ?_ (Q1.mono A1 (λc B=>by simp[B]))|refine Q1.trans ?_ (Q1.mono A2 (λc B=>by simp[B]))))
  rintro e w3 ⟨rfl,d,G⟩;have f:=G.size;try simp at f
  have f:b<w3:=by omega
  have AV:=λq=>Q1.cell G (b:=b) (by first|omega|(simp;omega)) r.o q;have hz:=λq=>Q1.frozen G (b:=b) (by first|omega|(simp;omega)) r.o q;have AH:=qh d;have A2:=qh G;clear d G
 all_goals(go_wp2;go_roundw)
 any_goals (simp[By];omega;done)
 all_goals
   (refine⟨i+1,by omega,by go_num, ?kk, ?ow, ?fr⟩
    case kk=>(rw[HS.o,B4.o];(first|go_num|(congr 1;omega)|(congr 1;push_cast;omega)))
    case fr=>(refine Q1.trans AM (Q1.mono (X:=λc=>c=b\/c∈_) ?_ (λc B=>B.elim (λe=>e▸B2.o) (λh=>B1.o c h)));(repeat(with_reducible first|exact Q1.refl _ _|refine Q1.setCell ?_ (by simp) _|refine Q1.trans ?_ (Q1.mono A0 (λc B=>by simp[B]))|refine Q1.trans ?_ (Q1.mono A1 (λc B=>by simp[B]))|refine Q1.trans ?_ (Q1.mono A2 (λc B=>by simp[B])))))
    case ow=>
     rw[AS.o]
     first
      |(refine j.o _ [A p0 (Ca x.1.1) n,I Z (k+(m:Nat)+(Y3 _ x.1.1:Nat)),I Z (k+(m:Nat)+(Y3 _ x.1.1:Nat)+1),I Z (k+(m:Nat)+(Y3 _ x.1.1:Nat)+1+1),A p1 (Ca x.1.2.2.2) d1,A p2 (Ca x.2.1) d2,I Z (k+(m:Nat)+(Y3 _ x.1.1:Nat)+1+1+1+(Y3 _ x.1.2.2.2:Nat)+(Y3 _ x.2.1:Nat))] _ ?_ ?_ ?_ (Q5u (ga:=u++l) (gb:=y) (by simp) (Q5u rfl (Ow.at (Ow.frame (X:=λc=>c=b\/c∈l\/c∈y) g.o ?_ (λc B=>⟨g.o.lt c B,λE=>E.elim (λh=>L.o (h▸B)) (λE=>E.elim (λh=>z.o c B h) (λh=>AE.o c B h))⟩)) (by first|rfl|(change mk (Ty.slice _) x.1.1 _=mk (Ty.slice _) x.1.1 _;congr 1;simp[Vh,Y3];omega))) (Q5u (ga:=[]) rfl ?_ (Q5u (ga:=[]) rfl (Q5u (ga:=[]) (gb:=[]) rfl ?_ ?_) (Ow.at (Ow.frame (X:=λc=>c=b\/c∈y) A3 ?_ (λc B=>⟨A3.o.lt c B,λE=>E.elim (λh=>S.o (h▸B)) (λh=>AF.o c B h)⟩)) (by first|rfl|(change mk (Ty.slice _) x.1.2.2.2 _=mk (Ty.slice _) x.1.2.2.2 _;congr 1;simp[Vh,Y3];omega)))))) (Q5u (Cl _).symm (Ow.at (Ow.frame (X:=λc=>c=b) AH ?_ (λc B=>⟨AH.o.lt c B,λh=>r.o (h▸B)⟩)) (by first|rfl|(change mk (Ty.slice _) x.2.1 _=mk (Ty.slice _) x.2.1 _;congr 1;simp[Vh,Y3];omega))) ?_)))
      |(refine j.o _ [I Z (k+(m:Nat)),I Z (k+(m:Nat)+1),A p0 (Ca x.2.2.1) n,A p1 (Ca x.2.2.2.1) d1,A p2 (Ca x.2.2.2.2) d2] _ ?_ ?_ ?_ (Q5u (ga:=[]) rfl ?_ (Q5u (ga:=[]) rfl ?_ (Q5u rfl (Ow.at (Ow.frame (X:=λc=>c=b\/c∈l\/c∈y) g.o ?_ (λc B=>⟨g.o.lt c B,λE=>E.elim (λh=>L.o (h▸B)) (λE=>E.elim (λh=>z.o c B h) (λh=>AE.o c B h))⟩)) (by first|rfl|(change mk (Ty.slice _) x.2.2.1 _=mk (Ty.slice _) x.2.2.1 _;congr 1;simp[Vh,Y3];omega))) (Q5u rfl (Ow.at (Ow.frame (X:=λc=>c=b\/c∈y) A3 ?_ (λc B=>⟨A3.o.lt c B,λE=>E.elim (λh=>S.o (h▸B)) (λh=>AF.o c B h)⟩)) (by first|rfl|(change mk (Ty.slice _) x.2.2.2.1 _=mk (Ty.slice _) x.2.2.2.1 _;congr 1;simp[Vh,Y3];omega))) (Ow.at (Ow.frame (X:=λc=>c=b) AH ?_ (λc B=>⟨AH.o.lt c B,λh=>r.o (h▸B)⟩)) (by first|rfl|(change mk (Ty.slice _) x.2.2.2.2 _=mk (Ty.slice _) x.2.2.2.2 _;congr 1;simp[Vh,Y3];omega))))))))
      |(refine j.o _ [I Z (k+(m:Nat)),I Z (k+(m:Nat)+1),I Z (k+(m:Nat)+1+1),A p0 (Ca x.2.2.2.1) n,A p1 (Ca x.2.2.2.2) d1] _ ?_ ?_ ?_ (Q5u (ga:=[]) rfl ?_ (Q5u (ga:=[]) rfl ?_ (Q5u (ga:=[]) rfl ?_ (Q5u rfl (Ow.at (Ow.frame (X:=λc=>c=b\/c∈l) g.o ?_ (λc B=>⟨g.o.lt c B,λE=>E.elim (λh=>L.o (h▸B)) (λh=>z.o c B h)⟩)) (by first|rfl|(change mk (Ty.slice _) x.2.2.2.1 _=mk (Ty.slice _) x.2.2.2.1 _;congr 1;simp[Vh,Y3];omega))) (Ow.at (Ow.frame (X:=λc=>c=b) A3 ?_ (λc B=>⟨A3.o.lt c B,λh=>S.o (h▸B)⟩)) (by first|rfl|(change mk (Ty.slice _) x.2.2.2.2 _=mk (Ty.slice _) x.2.2.2.2 _;congr 1;simp[Vh,Y3];omega))))))))
      |(refine j.o _ [A p0 (Ca x) n] _ ?_ ?_ ?_ ((Ow.at (Ow.frame (X:=λc=>c=b) g.o ?_ (λc B=>⟨g.o.lt c B,λh=>L.o (h▸B)⟩)) (by first|rfl|(change mk (Ty.slice _) x _=mk (Ty.slice _) x _;congr 1;simp[Vh,Y3];omega)))))
      |(refine j.o _ [I Z (k+(m:Nat)),I Z (k+(m:Nat)+1),I Z (k+(m:Nat)+1+1),I Z (k+(m:Nat)+1+1+1)] _ ?_ ?_ ?_ (Q5u (ga:=[]) (gb:=[]) rfl (Q5u (ga:=[]) (gb:=[]) rfl ?_ ?_) (Q5u (ga:=[]) (gb:=[]) rfl ?_ ?_)))
      |(refine j.o _ [I Z (k+(m:Nat)),I Z (k+(m:Nat)+1)] _ ?_ ?_ ?_ (Q5u (ga:=[]) (gb:=[]) rfl ?_ ?_))
      |(refine j.o _ [I Z (k+(m:Nat))] _ ?_ ?_ ?_ (?_))
     all_goals first
      |exact Qm9 (by unfold Qyn;omega) (by first|rfl|(simp[mk,Vh,Y3];omega))
      |((repeat(with_reducible first|exact Q1.refl _ _|refine Q1.setCell ?_ (by simp) _|refine Q1.trans ?_ (Q1.mono A0 (λc B=>by simp[B]))|refine Q1.trans ?_ (Q1.mono A1 (λc B=>by simp[B]))|refine Q1.trans ?_ (Q1.mono A2 (λc B=>by simp[B]))));done)
      |(simp only[Ty.sz,Cc,Bj];(repeat(with_reducible first|exact Qc.refl _ _ _ _|refine Qc.set ?_ _ (by omega) _|refine Qc.fr ?_ A0 L|refine Qc.fr ?_ A1 S|refine Qc.fr ?_ A2 r.o));done)
      |(simp only[Ty.sz,Cc,Bj];(first|refine Qio ?_|refine Q76 ?_ ?_|refine Qaf ?_ ?_ ?_ ?_|refine Q1n ?_ ?_ ?_ ?_ ?_|refine Qvw ?_ ?_ ?_ ?_ ?_ ?_ ?_)<;>(first|simp[go_sem,AG,AL,AV,K,T,s,t,e4,e5,e6]|simp[go_sem,AG,AL,AV,K,T,s,t,e4]|simp[go_sem,AG,AL,K,T,s,t,e4]|simp[go_sem,AG,K]|simp[go_sem,K,T,s,t]|simp[go_sem,K,T]|simp[go_sem,K])))
def Q42:Qxm 16 Ty.int:=Qfm.1 trivial trivial trivial
def Qj7:Qxm 87 Q5:=Qfm.2.1 trivial trivial trivial
def Qiq:Qxm 142 Q5:=Qfm.2.2.1 trivial trivial trivial
def Qbg:Qxm 89 Q5:=Qfm.2.2.2.1 trivial trivial trivial
def Qjr:Qxm 90 Z7:=Qfm.2.2.2.2.1 trivial trivial trivial
def Qgt:Qxm 41 Q4:=Qfm.2.2.2.2.2.1 Q42 Qj7 trivial
def Qj0:Qxm 88 Q4:=Qfm.2.2.2.2.2.2.1 Q42 Qiq trivial
def Qnr:Qxm 14 Jl:=Qfm.2.2.2.2.2.2.2.1 Qgt trivial trivial
def Qf4:Qxm 43 Qh:=Qfm.2.2.2.2.2.2.2.2.1 Qbg Qjr Q42
def Qte:Qxm 47 Qv:=Qfm.2.2.2.2.2.2.2.2.2 Qj0 Qbg Qf4
def Qhe{w vs x F}{k:Int}(h:Ow Qq w vs x F)(J:F.Nodup)(f:0<=k)(g:k+(Y3 Q4 x.1:Nat)+(Y3 Q5 x.2.2.2:Nat)<=1000000000):
  Bv prog 42 #[.agg vs.toArray,I Z k] w λe w'=>e=.returned (I Z (k+(Y3 Q4 x.1:Nat)+(Y3 Q5 x.2.2.2:Nat)))/\Q1 (λc=>c∈F) w w':=by
 obtain⟨_,_,K,_,rfl,rfl,C,⟨_,_,_,_,rfl,rfl,⟨rfl,_,rfl⟩,⟨_,_,_,i,rfl,rfl,⟨_,_,_,_,rfl,rfl,⟨rfl,_,rfl⟩,⟨rfl,_,rfl⟩⟩,E⟩⟩⟩:=h;obtain⟨p0,j,rfl,C⟩:=V5 C;obtain⟨l,m,rfl,E⟩:=V5 E;simp only[Bw,Bs]at *
 obtain⟨L,M,O⟩:=Qxw J;have G:=qh C;have P:=qh E;have U:=qh L;have V:=qh M;have W:=qh O;clear C E L M O J;have Y:¬w.heap.size∈K:=λa=>by have:=G.o.lt _ a;omega
 go_enter func42,ntmps42;go_wp2_with fail
 refine(Qj0 _ _ _ _ _ (Ow.frame (X:=λ_=>False) G ?f0 (λc B=>⟨G.o.lt c B,not_false⟩)) U (by omega) (by omega)).mono ?_;case f0=>exact Q1.alloc (Q1.refl _ _) _
 rintro e w1 ⟨rfl,-,H⟩;have n:=λq=>Q1.cell H (b:=w) (by simp) Y q;have S:=qh H;clear H;go_wp2_with fail
 refine(Qbg _ _ _ _ _ (Ow.frame (X:=λc=>c∈K) P ?f1 (λc B=>⟨P.o.lt c B,λh=>W.o c h B⟩)) V (by omega) (by omega)).mono ?_;case f1=>exact Q1.trans (Q1.alloc (Q1.refl _ _) _) S.o
 rintro e w2 ⟨rfl,-,T⟩;have d:=qh T;clear T;go_wp2;go_ret;refine⟨rfl,Q1.trans (Q1.trans (Q1.alloc (Q1.refl _ _) _) (Q1.mono S λc B=>At0.2 (.inl B))) (Q1.mono d.o λc B=>At0.2 (.inr B))⟩
def Qrz{w vs x F}(h:Ow Qq w vs x F):∃p0 B C E,vs=[A p0 x.1 C,x.2.1,x.2.2.1.1,x.2.2.1.2,A B x.2.2.2 E]:=by
 obtain⟨_,_,_,_,rfl,rfl,G,⟨_,_,_,_,rfl,rfl,⟨rfl,_,rfl⟩,⟨_,_,_,_,rfl,rfl,⟨_,_,_,_,rfl,rfl,⟨rfl,_,rfl⟩,⟨rfl,_,rfl⟩⟩,H⟩⟩⟩:=h;obtain⟨p0,C,rfl,G⟩:=V5 G;obtain⟨B,E,rfl,H⟩:=V5 H;exact⟨p0,B,C,E,rfl⟩
def Qej{w}(vs x F){k:Int}(h:Ow Qv w vs x F)(J:F.Nodup)(f:0<=k)(g:k+(Y3 Q4 x.1.1:Nat)+(Y3 Q5 x.1.2.2.2:Nat)+(Y3 Qh x.2.1:Nat)<=1000000000):
  Bv prog 15 #[.agg vs.toArray,I Z k] w λe w'=>e=.returned (I Z (k+(Y3 Q4 x.1.1:Nat)+(Y3 Q5 x.1.2.2.2:Nat)+(Y3 Qh x.2.1:Nat)))/\Q1 (λc=>c∈F) w w':=by
 obtain⟨_,_,K,_,rfl,rfl,E,⟨_,_,i,_,rfl,rfl,C,⟨rfl,_,rfl⟩⟩⟩:=h;have G:=qh E;obtain⟨p0,j,l,m,rfl⟩:=Qrz E;obtain⟨n,o,rfl,C⟩:=V5 C;simp only[Bw,Bs,Cl]at *
 obtain⟨L,M,O⟩:=Qxw J;have P:=qh C;have U:=qh L;have V:=qh M;have W:=qh O;clear E C L M O J;have Y:¬w.heap.size∈K:=λa=>by have:=G.o.lt _ a;omega
 go_enter func15,ntmps15;go_wp2_with fail
 refine(Qhe (Ow.frame (X:=λ_=>False) G ?f0 (λc B=>⟨G.o.lt c B,not_false⟩)) U (by omega) (by omega)).mono ?_;case f0=>exact Q1.alloc (Q1.refl _ _) _
 rintro e w1 ⟨rfl,H⟩;have p:=λq=>Q1.cell H (b:=w) (by simp) Y q;have S:=qh H;clear H;go_wp2_with fail
 refine(Qf4 _ _ _ _ _ (Ow.frame (X:=λc=>c∈K) P ?f1 (λc B=>⟨P.o.lt c B,λh=>W.o c h B⟩)) V (by omega) (by omega)).mono ?_;case f1=>exact Q1.trans (Q1.alloc (Q1.refl _ _) _) S.o
 rintro e w2 ⟨rfl,-,T⟩;have d:=qh T;clear T;go_wp2;go_ret;refine⟨rfl,Q1.trans (Q1.trans (Q1.alloc (Q1.refl _ _) _) (Q1.mono S λc B=>At0.2 (.inl B))) (Q1.mono d.o λc B=>At0.2 (.inr B))⟩
end Go.Proofs.YtcjngpfigpglfaaGreatDoor
