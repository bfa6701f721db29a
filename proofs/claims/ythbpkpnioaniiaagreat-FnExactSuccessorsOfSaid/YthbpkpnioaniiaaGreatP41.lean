import Derived.Test.YthbpkpnioaniiaaGreatP00
set_option maxHeartbeats 40000000
set_option maxRecDepth 100000
set_option linter.all false
namespace Go.Proofs.YthbpkpnioaniiaaGreat
open Go.RowKit Go.Proofs.Tryz
open Go.Value renaming int->I,slice->A
open Go.IntKind renaming i64->Z
open Option renaming none->N,some->R
open Go renaming World->Bh,Value->Bk,Calls->Bq
open Go.RowKit renaming intOf->Bv
open List renaming cons_append->Cc,nil_append->Bt,append_nil->Co,append_assoc->Dd,length->Bx
open Nat renaming mul_one->Cb,reduceAdd->Bj
abbrev Qqr(f:Nat)(t:Ty):Prop:=∀(w:Bh) (v:Bk) (xs:List t.den) (F:List Nat) (k:Int),Ow (.slice t) w [v] xs F->F.Nodup->0<=k->k+(Z9 t xs:Nat)<=1000000000->Bq prog f #[v,I Z k] w λe w'=>e=.returned (I Z (k+(Z9 t xs:Nat)))/\Ow (.slice t) w' [v] (mk (.slice t) xs k) F/\Q1 (λc=>c∈F) w w'
theorem Q4c{a b:Ty}{w:Bh}{vs:List Bk}{x:(a.pair b).den}{ga gb F:List Nat}(B:F=ga++gb)(C:Ow a w (vs.take a.sz) x.1 ga)(E:Ow b w (vs.drop a.sz) x.2 gb):Ow (.pair a b) w vs x F:=⟨_,_,ga,gb,(List.take_append_drop _ _).symm,B,C,E⟩
theorem Qao:(True->True->True->Qqr 76 Ty.int)/\(True->True->True->Qqr 77 Q4)/\(True->True->True->Qqr 79 Q4)/\(True->True->True->Qqr 41 Q4)/\(True->True->True->Qqr 78 Qu)/\((Qqr 76 Ty.int)->(Qqr 77 Q4)->True->Qqr 37 Q3)/\((Qqr 76 Ty.int)->(Qqr 79 Q4)->True->Qqr 40 Q3)/\((Qqr 37 Q3)->True->True->Qqr 13 Je)/\((Qqr 41 Q4)->(Qqr 78 Qu)->(Qqr 76 Ty.int)->Qqr 39 Qc)/\((Qqr 40 Q3)->(Qqr 41 Q4)->(Qqr 39 Qc)->Qqr 15 Qr):=by
 refine⟨?_, ?_, ?_, ?_, ?_, ?_, ?_, ?_, ?_, ?_⟩
 all_goals
  intro h1 h2 h3 w v xs F k h hF h0 hb;have H1:=qh h1;have H2:=qh h2;have H3:=qh h3;clear h1 h2 h3;obtain⟨p,B1,rfl,B2⟩:=h.gen;unfold maxLen at B2;have HO:=qh h;have HF:=qh hF;clear h hF;(first|(go_enter func76,ntmps76)|(go_enter func77,ntmps77)|(go_enter func79,ntmps79)|(go_enter func41,ntmps41)|(go_enter func78,ntmps78)|(go_enter func37,ntmps37)|(go_enter func40,ntmps40)|(go_enter func13,ntmps13)|(go_enter func39,ntmps39)|(go_enter func15,ntmps15))
  go_wp2;go_loopw [1,5] (λkv iv wr=>∃i:Nat,i<=xs.length/\iv=I Z i/\kv=I Z (k+(Z9 _ (xs.take i):Nat))/\D (Ow (Ty.slice _) wr [A p xs.length B1] (Qhf _ xs k i) F)/\D (Q1 (λc=>c∈F) w wr)) (λ_ iv _=>xs.length-(Bv iv).toNat);case atStart=>exact⟨0,Ak _,rfl,by simp[Z9],by rw[Qll];exact HO,Q1.refl _ _⟩
  obtain⟨i,hi,rfl,rfl,HW,r⟩:=hrel;by_cases AO:i<xs.length;case neg=>
   have AV:xs.length<=i:=by omega
   have B3:=qh (Q2u AV);have B4:=qh (Qm2 xs k i AV);go_wp2;go_ret;exact⟨Qm (by rw[B3.o]),by rw[<-B4.o];exact HW.o,r.o⟩
  obtain⟨b,o,us,O,rfl,AW,B7,AX,U,V,A7,J,B8,l,AY⟩:=Ow.focus HW.o HF.o i (by rw[Qfd _ _ _ hi];exact AO);rw[Qno AO]at l;have AP:=Q2x AO;have s:=Q65 xs (i+1);have t:=qh (Qjj (k:=k) AO);generalize xs[i]=x at l AP t;rw[AP]at s;have HS:=qh AP;clear AP;have HC:=qh AY;have AQ:=qh AX;have A8:=qh AW;clear AY AX AW;generalize Z9 _ (xs.take i)=m at *
 ·obtain⟨rfl,_,rfl⟩:=l
  have C:Vc _ x=1:=by simp[Vc,Z9];try omega
  rw[C]at s;have P:=qh C;clear C;clear U V;simp only[Ty.sz,Cb]at J;have S:=Qac J;clear J A7;go_wp2;go_roundw;case rel=>
   refine⟨i+1,by omega,by go_num, ?kk, ?ow, ?fr⟩;case kk=>(rw[HS.o,P.o];(first|go_num|(congr 1;omega)|(congr 1;push_cast;omega)))
   case fr=>(refine Q1.trans r.o (Q1.mono (X:=λc=>c=b\/c∈([]:List Nat)) ?_ (λc B=>B.elim (λe=>e▸A8.o) (λh=>absurd h (by simp))));(repeat(first|(with_reducible exact Q1.refl _ _)|(with_reducible refine Q1.setCell ?_ (by simp) _))))
   case ow=>
    rw[t.o];refine HC.o _ [I Z (k+(m:Nat))] _ ?f1 ?f2 ?f3 (?_);case f1=>(repeat(first|(with_reducible exact Q1.refl _ _)|(with_reducible refine Q1.setCell ?_ (by simp) _)))
    case f2=>(simp only[Ty.sz,Cb];(repeat(first|(with_reducible exact Q9.refl _ _ _ _)|(with_reducible refine Q9.set ?_ _ (by omega) _))))
    case f3=>(simp only[Ty.sz,Cb];refine Qdq ?_<;>simp[go_sem,S])
    all_goals exact Qil (by unfold Qqm;omega) (by first|rfl|(simp[mk,Vc,Z9];omega))
  case measure=>simp[Bv];omega
 iterate 3
  ·obtain⟨_,_,_,_,rfl,rfl,⟨rfl,_,rfl⟩,⟨rfl,_,rfl⟩⟩:=l
   try simp only[Cc,Bt,Co,Dd]at *
   have C:Vc _ x=1+1:=by simp[Vc,Z9];try omega
   rw[C]at s;have P:=qh C;clear C;clear U V;simp only[Ty.sz,Bj]at J;obtain⟨S,n⟩:=Qcy J;clear J A7;go_wp2;go_roundw;case rel=>
    refine⟨i+1,by omega,by go_num, ?kk, ?ow, ?fr⟩;case kk=>(rw[HS.o,P.o];(first|go_num|(congr 1;omega)|(congr 1;push_cast;omega)))
    case fr=>(refine Q1.trans r.o (Q1.mono (X:=λc=>c=b\/c∈([]:List Nat)) ?_ (λc B=>B.elim (λe=>e▸A8.o) (λh=>absurd h (by simp))));(repeat(first|(with_reducible exact Q1.refl _ _)|(with_reducible refine Q1.setCell ?_ (by simp) _))))
    case ow=>
     rw[t.o];refine HC.o _ [I Z (k+(m:Nat)),I Z (k+(m:Nat)+1)] _ ?f1 ?f2 ?f3 (Q4c (ga:=[]) (gb:=[]) rfl ?_ ?_);case f1=>(repeat(first|(with_reducible exact Q1.refl _ _)|(with_reducible refine Q1.setCell ?_ (by simp) _)))
     case f2=>(simp only[Ty.sz,Bj];(repeat(first|(with_reducible exact Q9.refl _ _ _ _)|(with_reducible refine Q9.set ?_ _ (by omega) _))))
     case f3=>(simp only[Ty.sz,Bj];refine Q5g ?_ ?_<;>simp[go_sem,S,n])
     all_goals exact Qil (by unfold Qqm;omega) (by first|rfl|(simp[mk,Vc,Z9];omega))
   case measure=>simp[Bv];omega
 ·obtain⟨_,_,_,_,rfl,rfl,⟨_,_,_,_,rfl,rfl,⟨rfl,_,rfl⟩,⟨rfl,_,rfl⟩⟩,⟨_,_,_,_,rfl,rfl,⟨rfl,_,rfl⟩,⟨rfl,_,rfl⟩⟩⟩:=l
  try simp only[Cc,Bt,Co,Dd]at *
  have C:Vc _ x=1+1+1+1:=by simp[Vc,Z9];try omega
  rw[C]at s;have P:=qh C;clear C;clear U V;simp only[Ty.sz,Bj]at J;obtain⟨S,n,e2,e3⟩:=Qm3 J;clear J A7;go_wp2;go_roundw;case rel=>
   refine⟨i+1,by omega,by go_num, ?kk, ?ow, ?fr⟩;case kk=>(rw[HS.o,P.o];(first|go_num|(congr 1;omega)|(congr 1;push_cast;omega)))
   case fr=>(refine Q1.trans r.o (Q1.mono (X:=λc=>c=b\/c∈([]:List Nat)) ?_ (λc B=>B.elim (λe=>e▸A8.o) (λh=>absurd h (by simp))));(repeat(first|(with_reducible exact Q1.refl _ _)|(with_reducible refine Q1.setCell ?_ (by simp) _))))
   case ow=>
    rw[t.o];refine HC.o _ [I Z (k+(m:Nat)),I Z (k+(m:Nat)+1),I Z (k+(m:Nat)+1+1),I Z (k+(m:Nat)+1+1+1)] _ ?f1 ?f2 ?f3 (Q4c (ga:=[]) (gb:=[]) rfl (Q4c (ga:=[]) (gb:=[]) rfl ?_ ?_) (Q4c (ga:=[]) (gb:=[]) rfl ?_ ?_));case f1=>(repeat(first|(with_reducible exact Q1.refl _ _)|(with_reducible refine Q1.setCell ?_ (by simp) _)))
    case f2=>(simp only[Ty.sz,Bj];(repeat(first|(with_reducible exact Q9.refl _ _ _ _)|(with_reducible refine Q9.set ?_ _ (by omega) _))))
    case f3=>(simp only[Ty.sz,Bj];refine Q81 ?_ ?_ ?_ ?_<;>simp[go_sem,S,n,e2,e3])
    all_goals exact Qil (by unfold Qqm;omega) (by first|rfl|(simp[mk,Vc,Z9];omega))
  case measure=>simp[Bv];omega
 iterate 2
  ·obtain⟨_,_,_,_,rfl,rfl,⟨rfl,_,rfl⟩,⟨_,_,_,_,rfl,rfl,⟨rfl,_,rfl⟩,⟨_,_,_,_,rfl,rfl,⟨rfl,_,rfl⟩,⟨_,_,O,W,rfl,rfl,s0,s1⟩⟩⟩⟩:=l
   obtain⟨p0,d0,rfl,s0⟩:=Jx s0;obtain⟨p1,d1,rfl,s1⟩:=Jx s1;try simp only[Cc,Bt,Co,Dd]at *
   have Y:=qh s0;clear s0;have u:=qh s1;clear s1;have C:Vc _ x=1+1+1+Z9 _ x.2.2.2.1+Z9 _ x.2.2.2.2:=by simp[Vc,Z9];try omega
   rw[C]at s;have P:=qh C;clear C;have AR:0<=(Z9 _ x.2.2.2.1:Int):=by omega
   have AZ:0<=(Z9 _ x.2.2.2.2:Int):=by omega
   obtain⟨y,z,A0⟩:=Qqn U;obtain⟨A1,A2⟩:=Qqd V;have A9:=qh y;have AC:=qh z;have A3:=qh A0;have G:=qh A1;have L:=qh A2;clear y z A0 A1 A2 U V;simp only[Ty.sz,Bj]at J;obtain⟨S,n,e2,e3,e4⟩:=Q4b J;clear J A7;go_wp2_with fail
   refine(H1.o _ _ _ _ _ (Ow.frame (X:=λc=>c=b) Y.o ?fr (λc B=>⟨Y.o.lt c B,λh=>G.o (h▸B)⟩)) A9.o (by omega) (by omega)).mono ?_;case fr=>(repeat(first|(with_reducible exact Q1.refl _ _)|(with_reducible refine Q1.setCell ?_ (by simp) _)))
   rintro e w1 ⟨rfl,a,H⟩;have d:=H.size;try simp at d
   have d:b<w1.heap.size:=by omega
   have AA:=λq=>Q1.cell H (b:=b) (by first|omega|(simp;omega)) G.o q;have AS:=λq=>Q1.frozen H (b:=b) (by first|omega|(simp;omega)) G.o q;have f:=qh a;have K:=qh H;clear a H;go_wp2_with fail
   refine(H2.o _ _ _ _ _ (Ow.frame (X:=λc=>c=b\/c∈O) u.o ?fr (λc B=>⟨u.o.lt c B,λE=>E.elim (λh=>L.o (h▸B)) (λh=>A3.o c h B)⟩)) AC.o (by omega) (by omega)).mono ?_;case fr=>(repeat(first|(with_reducible exact Q1.refl _ _)|(with_reducible refine Q1.setCell ?_ (by simp) _)|(with_reducible refine Q1.trans ?_ (Q1.mono K.o (λc B=>by simp[B])))))
   rintro e w2 ⟨rfl,A4,M⟩;have A5:=M.size;try simp at A5
   have A5:b<w2.heap.size:=by omega
   have AD:=λq=>Q1.cell M (b:=b) (by first|omega|(simp;omega)) L.o q;have B0:=λq=>Q1.frozen M (b:=b) (by first|omega|(simp;omega)) L.o q;have A6:=qh A4;have T:=qh M;clear A4 M;go_wp2;go_roundw;case rel=>
    refine⟨i+1,by omega,by go_num, ?kk, ?ow, ?fr⟩;case kk=>(rw[HS.o,P.o];(first|go_num|(congr 1;omega)|(congr 1;push_cast;omega)))
    case fr=>(refine Q1.trans r.o (Q1.mono (X:=λc=>c=b\/c∈(O++W)) ?_ (λc B=>B.elim (λe=>e▸A8.o) (λh=>AQ.o c h)));(repeat(first|(with_reducible exact Q1.refl _ _)|(with_reducible refine Q1.setCell ?_ (by simp) _)|(with_reducible refine Q1.trans ?_ (Q1.mono K.o (λc B=>by simp[B])))|(with_reducible refine Q1.trans ?_ (Q1.mono T.o (λc B=>by simp[B]))))))
    case ow=>
     rw[t.o];refine HC.o _ [I Z (k+(m:Nat)),I Z (k+(m:Nat)+1),I Z (k+(m:Nat)+1+1),A p0 (Bx x.2.2.2.1) d0,A p1 (Bx x.2.2.2.2) d1] _ ?f1 ?f2 ?f3 (Q4c (ga:=[]) rfl ?_ (Q4c (ga:=[]) rfl ?_ (Q4c (ga:=[]) rfl ?_ (Q4c rfl (Ow.at (Ow.frame (X:=λc=>c=b\/c∈W) f.o ?g0 (λc B=>⟨f.o.lt c B,λE=>E.elim (λh=>G.o (h▸B)) (λh=>A3.o c B h)⟩)) (by first|rfl|(change mk (Ty.slice _) x.2.2.2.1 _=mk (Ty.slice _) x.2.2.2.1 _;congr 1;simp[Vc,Z9];omega))) (Ow.at (Ow.frame (X:=λc=>c=b) A6.o ?g1 (λc B=>⟨A6.o.lt c B,λh=>L.o (h▸B)⟩)) (by first|rfl|(change mk (Ty.slice _) x.2.2.2.2 _=mk (Ty.slice _) x.2.2.2.2 _;congr 1;simp[Vc,Z9];omega)))))));case f1|g0|g1=>(repeat(first|(with_reducible exact Q1.refl _ _)|(with_reducible refine Q1.setCell ?_ (by simp) _)|(with_reducible refine Q1.trans ?_ (Q1.mono K.o (λc B=>by simp[B])))|(with_reducible refine Q1.trans ?_ (Q1.mono T.o (λc B=>by simp[B])))))
     case f2=>(simp only[Ty.sz,Bj];(repeat(first|(with_reducible exact Q9.refl _ _ _ _)|(with_reducible refine Q9.set ?_ _ (by omega) _)|(with_reducible refine Q9.fr ?_ K.o G.o)|(with_reducible refine Q9.fr ?_ T.o L.o))))
     case f3=>(simp only[Ty.sz,Bj];refine Q11 ?_ ?_ ?_ ?_ ?_<;>simp[go_sem,AA,AD,S,n,e2,e3,e4])
     all_goals exact Qil (by unfold Qqm;omega) (by first|rfl|(simp[mk,Vc,Z9];omega))
   case measure=>simp[Bv];omega
 ·have s0:=l
  obtain⟨p0,d0,rfl,s0⟩:=Jx s0;have Y:=qh s0;clear s0;have C:Vc Je x=Z9 Q3 x:=rfl;rw[C]at s;have P:=qh C;clear C;have AR:0<=(Z9 _ x:Int):=by omega
  have A9:=qh U;have G:=qh V;clear U V;simp only[Ty.sz,Cb]at J;have S:=Qac J;clear J A7;go_wp2_with fail
  refine(H1.o _ _ _ _ _ (Ow.frame (X:=λc=>c=b) Y.o ?fr (λc B=>⟨Y.o.lt c B,λh=>G.o (h▸B)⟩)) A9.o (by omega) (by omega)).mono ?_;case fr=>(repeat(first|(with_reducible exact Q1.refl _ _)|(with_reducible refine Q1.setCell ?_ (by simp) _)))
  rintro e w1 ⟨rfl,a,H⟩;have d:=H.size;try simp at d
  have d:b<w1.heap.size:=by omega
  have AA:=λq=>Q1.cell H (b:=b) (by first|omega|(simp;omega)) G.o q;have AS:=λq=>Q1.frozen H (b:=b) (by first|omega|(simp;omega)) G.o q;have f:=qh a;have K:=qh H;clear a H;go_wp2;go_roundw;case rel=>
   refine⟨i+1,by omega,by go_num, ?kk, ?ow, ?fr⟩;case kk=>(rw[HS.o,P.o];(first|go_num|(congr 1;omega)|(congr 1;push_cast;omega)))
   case fr=>(refine Q1.trans r.o (Q1.mono (X:=λc=>c=b\/c∈O) ?_ (λc B=>B.elim (λe=>e▸A8.o) (λh=>AQ.o c h)));(repeat(first|(with_reducible exact Q1.refl _ _)|(with_reducible refine Q1.setCell ?_ (by simp) _)|(with_reducible refine Q1.trans ?_ (Q1.mono K.o (λc B=>by simp[B]))))))
   case ow=>
    rw[t.o];refine HC.o _ [A p0 (Bx x) d0] _ ?f1 ?f2 ?f3 ((Ow.at (Ow.frame (X:=λc=>c=b) f.o ?g0 (λc B=>⟨f.o.lt c B,λh=>G.o (h▸B)⟩)) (by first|rfl|(change mk (Ty.slice _) x _=mk (Ty.slice _) x _;congr 1;simp[Vc,Z9];omega))));case f1|g0=>(repeat(first|(with_reducible exact Q1.refl _ _)|(with_reducible refine Q1.setCell ?_ (by simp) _)|(with_reducible refine Q1.trans ?_ (Q1.mono K.o (λc B=>by simp[B])))))
    case f2=>(simp only[Ty.sz,Cb];(repeat(first|(with_reducible exact Q9.refl _ _ _ _)|(with_reducible refine Q9.set ?_ _ (by omega) _)|(with_reducible refine Q9.fr ?_ K.o G.o))))
    case f3=>(simp only[Ty.sz,Cb];refine Qdq ?_<;>simp[go_sem,AA,S])
  case measure=>simp[Bv];omega
 ·obtain⟨_,_,_,_,rfl,rfl,⟨rfl,_,rfl⟩,⟨_,_,_,_,rfl,rfl,⟨rfl,_,rfl⟩,⟨_,_,O,_,rfl,rfl,s0,⟨_,_,W,G2,rfl,rfl,s1,s2⟩⟩⟩⟩:=l
  obtain⟨p0,d0,rfl,s0⟩:=Jx s0;obtain⟨p1,d1,rfl,s1⟩:=Jx s1;obtain⟨p2,d2,rfl,s2⟩:=Jx s2;try simp only[Cc,Bt,Co,Dd]at *
  have Y:=qh s0;clear s0;have u:=qh s1;clear s1;have AE:=qh s2;clear s2;have C:Vc _ x=1+1+Z9 _ x.2.2.1+Z9 _ x.2.2.2.1+Z9 _ x.2.2.2.2:=by simp[Vc,Z9];try omega
  rw[C]at s;have P:=qh C;clear C;have AR:0<=(Z9 _ x.2.2.1:Int):=by omega
  have AZ:0<=(Z9 _ x.2.2.2.1:Int):=by omega
  have B5:0<=(Z9 _ x.2.2.2.2:Int):=by omega
  obtain⟨y,z,AF,A0,AG,AH⟩:=Qqh U;obtain⟨A1,A2,AI⟩:=Qqq V;have A9:=qh y;have AC:=qh z;have AT:=qh AF;have A3:=qh A0;have AJ:=qh AG;have AK:=qh AH;have G:=qh A1;have L:=qh A2;have g:=qh AI;clear y z AF A0 AG AH A1 A2 AI U V;simp only[Ty.sz,Bj]at J;obtain⟨S,n,e2,e3,e4⟩:=Q4b J;clear J A7;go_wp2_with fail
  refine(H1.o _ _ _ _ _ (Ow.frame (X:=λc=>c=b) Y.o ?fr (λc B=>⟨Y.o.lt c B,λh=>G.o (h▸B)⟩)) A9.o (by omega) (by omega)).mono ?_;case fr=>(repeat(first|(with_reducible exact Q1.refl _ _)|(with_reducible refine Q1.setCell ?_ (by simp) _)))
  rintro e w1 ⟨rfl,a,H⟩;have d:=H.size;try simp at d
  have d:b<w1.heap.size:=by omega
  have AA:=λq=>Q1.cell H (b:=b) (by first|omega|(simp;omega)) G.o q;have AS:=λq=>Q1.frozen H (b:=b) (by first|omega|(simp;omega)) G.o q;have f:=qh a;have K:=qh H;clear a H;go_wp2_with fail
  refine(H2.o _ _ _ _ _ (Ow.frame (X:=λc=>c=b\/c∈O) u.o ?fr (λc B=>⟨u.o.lt c B,λE=>E.elim (λh=>L.o (h▸B)) (λh=>A3.o c h B)⟩)) AC.o (by omega) (by omega)).mono ?_;case fr=>(repeat(first|(with_reducible exact Q1.refl _ _)|(with_reducible refine Q1.setCell ?_ (by simp) _)|(with_reducible refine Q1.trans ?_ (Q1.mono K.o (λc B=>by simp[B])))))
  rintro e w2 ⟨rfl,A4,M⟩;have A5:=M.size;try simp at A5
  have A5:b<w2.heap.size:=by omega
  have AD:=λq=>Q1.cell M (b:=b) (by first|omega|(simp;omega)) L.o q;have B0:=λq=>Q1.frozen M (b:=b) (by first|omega|(simp;omega)) L.o q;have A6:=qh A4;have T:=qh M;clear A4 M;go_wp2_with fail
  refine(H3.o _ _ _ _ _ (Ow.frame (X:=λc=>c=b\/c∈O\/c∈W) AE.o ?fr (λc B=>⟨AE.o.lt c B,λE=>E.elim (λh=>g.o (h▸B)) (λE=>E.elim (λh=>AJ.o c h B) (λh=>AK.o c h B))⟩)) AT.o (by omega) (by omega)).mono ?_;case fr=>(repeat(first|(with_reducible exact Q1.refl _ _)|(with_reducible refine Q1.setCell ?_ (by simp) _)|(with_reducible refine Q1.trans ?_ (Q1.mono K.o (λc B=>by simp[B])))|(with_reducible refine Q1.trans ?_ (Q1.mono T.o (λc B=>by simp[B])))))
  rintro e w3 ⟨rfl,AL,j⟩;have AM:=j.size;try simp at AM
  have AM:b<w3.heap.size:=by omega
  have AU:=λq=>Q1.cell j (b:=b) (by first|omega|(simp;omega)) g.o q;have B6:=λq=>Q1.frozen j (b:=b) (by first|omega|(simp;omega)) g.o q;have AN:=qh AL;have AB:=qh j;clear AL j;go_wp2;go_roundw;case rel=>
   refine⟨i+1,by omega,by go_num, ?kk, ?ow, ?fr⟩;case kk=>(rw[HS.o,P.o];(first|go_num|(congr 1;omega)|(congr 1;push_cast;omega)))
   case fr=>(refine Q1.trans r.o (Q1.mono (X:=λc=>c=b\/c∈(O++(W++G2))) ?_ (λc B=>B.elim (λe=>e▸A8.o) (λh=>AQ.o c h)));(repeat(first|(with_reducible exact Q1.refl _ _)|(with_reducible refine Q1.setCell ?_ (by simp) _)|(with_reducible refine Q1.trans ?_ (Q1.mono K.o (λc B=>by simp[B])))|(with_reducible refine Q1.trans ?_ (Q1.mono T.o (λc B=>by simp[B])))|(with_reducible refine Q1.trans ?_ (Q1.mono AB.o (λc B=>by simp[B]))))))
   case ow=>
    rw[t.o];refine HC.o _ [I Z (k+(m:Nat)),I Z (k+(m:Nat)+1),A p0 (Bx x.2.2.1) d0,A p1 (Bx x.2.2.2.1) d1,A p2 (Bx x.2.2.2.2) d2] _ ?f1 ?f2 ?f3 (Q4c (ga:=[]) rfl ?_ (Q4c (ga:=[]) rfl ?_ (Q4c rfl (Ow.at (Ow.frame (X:=λc=>c=b\/c∈W\/c∈G2) f.o ?g0 (λc B=>⟨f.o.lt c B,λE=>E.elim (λh=>G.o (h▸B)) (λE=>E.elim (λh=>A3.o c B h) (λh=>AJ.o c B h))⟩)) (by first|rfl|(change mk (Ty.slice _) x.2.2.1 _=mk (Ty.slice _) x.2.2.1 _;congr 1;simp[Vc,Z9];omega))) (Q4c rfl (Ow.at (Ow.frame (X:=λc=>c=b\/c∈G2) A6.o ?g1 (λc B=>⟨A6.o.lt c B,λE=>E.elim (λh=>L.o (h▸B)) (λh=>AK.o c B h)⟩)) (by first|rfl|(change mk (Ty.slice _) x.2.2.2.1 _=mk (Ty.slice _) x.2.2.2.1 _;congr 1;simp[Vc,Z9];omega))) (Ow.at (Ow.frame (X:=λc=>c=b) AN.o ?g2 (λc B=>⟨AN.o.lt c B,λh=>g.o (h▸B)⟩)) (by first|rfl|(change mk (Ty.slice _) x.2.2.2.2 _=mk (Ty.slice _) x.2.2.2.2 _;congr 1;simp[Vc,Z9];omega)))))));case f1|g0|g1|g2=>(repeat(first|(with_reducible exact Q1.refl _ _)|(with_reducible refine Q1.setCell ?_ (by simp) _)|(with_reducible refine Q1.trans ?_ (Q1.mono K.o (λc B=>by simp[B])))|(with_reducible refine Q1.trans ?_ (Q1.mono T.o (λc B=>by simp[B])))|(with_reducible refine Q1.trans ?_ (Q1.mono AB.o (λc B=>by simp[B])))))
    case f2=>(simp only[Ty.sz,Bj];(repeat(first|(with_reducible exact Q9.refl _ _ _ _)|(with_reducible refine Q9.set ?_ _ (by omega) _)|(with_reducible refine Q9.fr ?_ K.o G.o)|(with_reducible refine Q9.fr ?_ T.o L.o)|(with_reducible refine Q9.fr ?_ AB.o g.o))))
    case f3=>(simp only[Ty.sz,Bj];refine Q11 ?_ ?_ ?_ ?_ ?_<;>simp[go_sem,AA,AD,AU,S,n,e2,e3,e4])
    all_goals exact Qil (by unfold Qqm;omega) (by first|rfl|(simp[mk,Vc,Z9];omega))
  case measure=>simp[Bv];omega
 ·obtain⟨_,_,_,_,rfl,rfl,⟨_,_,O,_,rfl,rfl,s0,⟨_,_,_,_,rfl,rfl,⟨rfl,_,rfl⟩,⟨_,_,_,W,rfl,rfl,⟨_,_,_,_,rfl,rfl,⟨rfl,_,rfl⟩,⟨rfl,_,rfl⟩⟩,s1⟩⟩⟩,⟨_,_,G2,_,rfl,rfl,s2,⟨rfl,_,rfl⟩⟩⟩:=l
  obtain⟨p0,d0,rfl,s0⟩:=Jx s0;obtain⟨p1,d1,rfl,s1⟩:=Jx s1;obtain⟨p2,d2,rfl,s2⟩:=Jx s2;try simp only[Cc,Bt,Co,Dd]at *
  have Y:=qh s0;clear s0;have u:=qh s1;clear s1;have AE:=qh s2;clear s2;have C:Vc _ x=Z9 _ x.1.1+1+1+1+Z9 _ x.1.2.2.2+Z9 _ x.2.1+1:=by simp[Vc,Z9];try omega
  rw[C]at s;have P:=qh C;clear C;have AR:0<=(Z9 _ x.1.1:Int):=by omega
  have AZ:0<=(Z9 _ x.1.2.2.2:Int):=by omega
  have B5:0<=(Z9 _ x.2.1:Int):=by omega
  obtain⟨y,z,AF,A0,AG,AH⟩:=Qqh U;obtain⟨A1,A2,AI⟩:=Qqq V;have A9:=qh y;have AC:=qh z;have AT:=qh AF;have A3:=qh A0;have AJ:=qh AG;have AK:=qh AH;have G:=qh A1;have L:=qh A2;have g:=qh AI;clear y z AF A0 AG AH A1 A2 AI U V;simp only[Ty.sz,Bj]at J;obtain⟨S,n,e2,e3,e4,e5,e6⟩:=Qpc J;clear J A7;go_wp2_with fail
  refine(H1.o _ _ _ _ _ (Ow.frame (X:=λc=>c=b) Y.o ?fr (λc B=>⟨Y.o.lt c B,λh=>G.o (h▸B)⟩)) A9.o (by omega) (by omega)).mono ?_;case fr=>(repeat(first|(with_reducible exact Q1.refl _ _)|(with_reducible refine Q1.setCell ?_ (by simp) _)))
  rintro e w1 ⟨rfl,a,H⟩;have d:=H.size;try simp at d
  have d:b<w1.heap.size:=by omega
  have AA:=λq=>Q1.cell H (b:=b) (by first|omega|(simp;omega)) G.o q;have AS:=λq=>Q1.frozen H (b:=b) (by first|omega|(simp;omega)) G.o q;have f:=qh a;have K:=qh H;clear a H;go_wp2_with fail
  refine(H2.o _ _ _ _ _ (Ow.frame (X:=λc=>c=b\/c∈O) u.o ?fr (λc B=>⟨u.o.lt c B,λE=>E.elim (λh=>L.o (h▸B)) (λh=>A3.o c h B)⟩)) AC.o (by omega) (by omega)).mono ?_;case fr=>(repeat(first|(with_reducible exact Q1.refl _ _)|(with_reducible refine Q1.setCell ?_ (by simp) _)|(with_reducible refine Q1.trans ?_ (Q1.mono K.o (λc B=>by simp[B])))))
  rintro e w2 ⟨rfl,A4,M⟩;have A5:=M.size;try simp at A5
  have A5:b<w2.heap.size:=by omega
  have AD:=λq=>Q1.cell M (b:=b) (by first|omega|(simp;omega)) L.o q;have B0:=λq=>Q1.frozen M (b:=b) (by first|omega|(simp;omega)) L.o q;have A6:=qh A4;have T:=qh M;clear A4 M;go_wp2_with fail
  refine(H3.o _ _ _ _ _ (Ow.frame (X:=λc=>c=b\/c∈O\/c∈W) AE.o ?fr (λc B=>⟨AE.o.lt c B,λE=>E.elim (λh=>g.o (h▸B)) (λE=>E.elim (λh=>AJ.o c h B) (λh=>AK.o c h B))⟩)) AT.o (by omega) (by omega)).mono ?_;case fr=>(repeat(first|(with_reducible exact Q1.refl _ _)|(with_reducible refine Q1.setCell ?_ (by simp) _)|(with_reducible refine Q1.trans ?_ (Q1.mono K.o (λc B=>by simp[B])))|(with_reducible refine Q1.trans ?_ (Q1.mono T.o (λc B=>by simp[B])))))
  rintro e w3 ⟨rfl,AL,j⟩;have AM:=j.size;try simp at AM
  have AM:b<w3.heap.size:=by omega
  have AU:=λq=>Q1.cell j (b:=b) (by first|omega|(simp;omega)) g.o q;have B6:=λq=>Q1.frozen j (b:=b) (by first|omega|(simp;omega)) g.o q;have AN:=qh AL;have AB:=qh j;clear AL j;go_wp2;go_roundw;case rel=>
   refine⟨i+1,by omega,by go_num, ?kk, ?ow, ?fr⟩;case kk=>(rw[HS.o,P.o];(first|go_num|(congr 1;omega)|(congr 1;push_cast;omega)))
   case fr=>(refine Q1.trans r.o (Q1.mono (X:=λc=>c=b\/c∈(O++(W++G2))) ?_ (λc B=>B.elim (λe=>e▸A8.o) (λh=>AQ.o c h)));(repeat(first|(with_reducible exact Q1.refl _ _)|(with_reducible refine Q1.setCell ?_ (by simp) _)|(with_reducible refine Q1.trans ?_ (Q1.mono K.o (λc B=>by simp[B])))|(with_reducible refine Q1.trans ?_ (Q1.mono T.o (λc B=>by simp[B])))|(with_reducible refine Q1.trans ?_ (Q1.mono AB.o (λc B=>by simp[B]))))))
   case ow=>
    rw[t.o];refine HC.o _ [A p0 (Bx x.1.1) d0,I Z (k+(m:Nat)+(Z9 _ x.1.1:Nat)),I Z (k+(m:Nat)+(Z9 _ x.1.1:Nat)+1),I Z (k+(m:Nat)+(Z9 _ x.1.1:Nat)+1+1),A p1 (Bx x.1.2.2.2) d1,A p2 (Bx x.2.1) d2,I Z (k+(m:Nat)+(Z9 _ x.1.1:Nat)+1+1+1+(Z9 _ x.1.2.2.2:Nat)+(Z9 _ x.2.1:Nat))] _ ?f1 ?f2 ?f3 (Q4c (ga:=O++W) (gb:=G2) (by simp) (Q4c rfl (Ow.at (Ow.frame (X:=λc=>c=b\/c∈W\/c∈G2) f.o ?g0 (λc B=>⟨f.o.lt c B,λE=>E.elim (λh=>G.o (h▸B)) (λE=>E.elim (λh=>A3.o c B h) (λh=>AJ.o c B h))⟩)) (by first|rfl|(change mk (Ty.slice _) x.1.1 _=mk (Ty.slice _) x.1.1 _;congr 1;simp[Vc,Z9];omega))) (Q4c (ga:=[]) rfl ?_ (Q4c (ga:=[]) rfl (Q4c (ga:=[]) (gb:=[]) rfl ?_ ?_) (Ow.at (Ow.frame (X:=λc=>c=b\/c∈G2) A6.o ?g1 (λc B=>⟨A6.o.lt c B,λE=>E.elim (λh=>L.o (h▸B)) (λh=>AK.o c B h)⟩)) (by first|rfl|(change mk (Ty.slice _) x.1.2.2.2 _=mk (Ty.slice _) x.1.2.2.2 _;congr 1;simp[Vc,Z9];omega)))))) (Q4c (Co _).symm (Ow.at (Ow.frame (X:=λc=>c=b) AN.o ?g2 (λc B=>⟨AN.o.lt c B,λh=>g.o (h▸B)⟩)) (by first|rfl|(change mk (Ty.slice _) x.2.1 _=mk (Ty.slice _) x.2.1 _;congr 1;simp[Vc,Z9];omega))) ?_));case f1|g0|g1|g2=>(repeat(first|(with_reducible exact Q1.refl _ _)|(with_reducible refine Q1.setCell ?_ (by simp) _)|(with_reducible refine Q1.trans ?_ (Q1.mono K.o (λc B=>by simp[B])))|(with_reducible refine Q1.trans ?_ (Q1.mono T.o (λc B=>by simp[B])))|(with_reducible refine Q1.trans ?_ (Q1.mono AB.o (λc B=>by simp[B])))))
    case f2=>(simp only[Ty.sz,Bj];(repeat(first|(with_reducible exact Q9.refl _ _ _ _)|(with_reducible refine Q9.set ?_ _ (by omega) _)|(with_reducible refine Q9.fr ?_ K.o G.o)|(with_reducible refine Q9.fr ?_ T.o L.o)|(with_reducible refine Q9.fr ?_ AB.o g.o))))
    case f3=>(simp only[Ty.sz,Bj];refine Qp4 ?_ ?_ ?_ ?_ ?_ ?_ ?_<;>simp[go_sem,AA,AD,AU,S,n,e2,e3,e4,e5,e6])
    all_goals exact Qil (by unfold Qqm;omega) (by first|rfl|(simp[mk,Vc,Z9];omega))
  case measure=>simp[Bv];omega
theorem Q4m:Qqr 76 Ty.int:=Qao.1 trivial trivial trivial
theorem Qgb:Qqr 77 Q4:=Qao.2.1 trivial trivial trivial
theorem Qf4:Qqr 79 Q4:=Qao.2.2.1 trivial trivial trivial
theorem Q5s:Qqr 41 Q4:=Qao.2.2.2.1 trivial trivial trivial
theorem Qga:Qqr 78 Qu:=Qao.2.2.2.2.1 trivial trivial trivial
theorem Qeg:Qqr 37 Q3:=Qao.2.2.2.2.2.1 Q4m Qgb trivial
theorem Qae:Qqr 40 Q3:=Qao.2.2.2.2.2.2.1 Q4m Qf4 trivial
theorem Qie:Qqr 13 Je:=Qao.2.2.2.2.2.2.2.1 Qeg trivial trivial
theorem Q75:Qqr 39 Qc:=Qao.2.2.2.2.2.2.2.2.1 Q5s Qga Q4m
theorem Qfi:Qqr 15 Qr:=Qao.2.2.2.2.2.2.2.2.2 Qae Q5s Q75
theorem Qer(w:Bh)(vs:List Bk)(x:Qo.den)(F:List Nat)(k:Int)(h:Ow Qo w vs x F)(G:F.Nodup)(a:0<=k)(d:k+(Z9 Q3 x.1:Nat)+(Z9 Q4 x.2.2.2:Nat)<=1000000000):
  Bq prog 38 #[.agg vs.toArray,I Z k] w λe w'=>e=.returned (I Z (k+(Z9 Q3 x.1:Nat)+(Z9 Q4 x.2.2.2:Nat)))/\Q1 (λc=>c∈F) w w':=by
 obtain⟨_,_,H,_,rfl,rfl,s0,⟨_,_,_,_,rfl,rfl,⟨rfl,_,rfl⟩,⟨_,_,_,f,rfl,rfl,⟨_,_,_,_,rfl,rfl,⟨rfl,_,rfl⟩,⟨rfl,_,rfl⟩⟩,s1⟩⟩⟩:=h;obtain⟨g,i,rfl,s0⟩:=Jx s0;obtain⟨j,l,rfl,s1⟩:=Jx s1;simp only[Cc,Bt]at *
 obtain⟨J,K,L⟩:=Qqn G;have C:=qh s0;have M:=qh s1;have S:=qh J;have T:=qh K;have U:=qh L;clear s0 s1 J K L G;have V:¬w.heap.size∈H:=λW=>by have:=C.o.lt _ W;omega
 go_enter func38,ntmps38;go_wp2_with fail
 refine(Qae _ _ _ _ _ (Ow.frame (X:=λ_=>False) C.o ?f0 (λc B=>⟨C.o.lt c B,not_false⟩)) S.o (by omega) (by omega)).mono ?_;case f0=>exact Q1.alloc (Q1.refl _ _) _
 rintro e w1 ⟨rfl,-,E⟩;have m:=λq=>Q1.cell E (b:=w.heap.size) (by simp) V q;have O:=qh E;clear E;go_wp2_with fail
 refine(Q5s _ _ _ _ _ (Ow.frame (X:=λc=>c∈H) M.o ?f1 (λc B=>⟨M.o.lt c B,λh=>U.o c h B⟩)) T.o (by omega) (by omega)).mono ?_;case f1=>exact Q1.trans (Q1.alloc (Q1.refl _ _) _) O.o
 rintro e w2 ⟨rfl,-,P⟩;have Y:=qh P;clear P;go_wp2;go_ret;refine⟨rfl,Q1.trans (Q1.trans (Q1.alloc (Q1.refl _ _) _) (Q1.mono O.o λc B=>At0.2 (.inl B))) (Q1.mono Y.o λc B=>At0.2 (.inr B))⟩
theorem Qnl{w:Bh}{vs:List Bk}{x:Qo.den}{F:List Nat}(h:Ow Qo w vs x F):∃B C E G,vs=[A B x.1.length E,I Z x.2.1,I Z x.2.2.1.1,I Z x.2.2.1.2,A C x.2.2.2.length G]:=by
 obtain⟨_,_,_,_,rfl,rfl,s0,⟨_,_,_,_,rfl,rfl,⟨rfl,_,rfl⟩,⟨_,_,_,_,rfl,rfl,⟨_,_,_,_,rfl,rfl,⟨rfl,_,rfl⟩,⟨rfl,_,rfl⟩⟩,s1⟩⟩⟩:=h;obtain⟨B,E,rfl,s0⟩:=Jx s0;obtain⟨C,G,rfl,s1⟩:=Jx s1;exact⟨B,C,E,G,rfl⟩
theorem Qhw(w:Bh)(vs:List Bk)(x:Qr.den)(F:List Nat)(k:Int)(h:Ow Qr w vs x F)(G:F.Nodup)(a:0<=k)(d:k+(Z9 Q3 x.1.1:Nat)+(Z9 Q4 x.1.2.2.2:Nat)+(Z9 Qc x.2.1:Nat)<=1000000000):
  Bq prog 14 #[.agg vs.toArray,I Z k] w λe w'=>e=.returned (I Z (k+(Z9 Q3 x.1.1:Nat)+(Z9 Q4 x.1.2.2.2:Nat)+(Z9 Qc x.2.1:Nat)))/\Q1 (λc=>c∈F) w w':=by
 obtain⟨_,_,H,_,rfl,rfl,s0,⟨_,_,f,_,rfl,rfl,s1,⟨rfl,_,rfl⟩⟩⟩:=h;have C:=qh s0;obtain⟨g,i,j,l,rfl⟩:=Qnl s0;obtain⟨m,n,rfl,s1⟩:=Jx s1;simp only[Cc,Bt,Co]at *
 obtain⟨J,K,L⟩:=Qqn G;have M:=qh s1;have S:=qh J;have T:=qh K;have U:=qh L;clear s0 s1 J K L G;have V:¬w.heap.size∈H:=λW=>by have:=C.o.lt _ W;omega
 go_enter func14,ntmps14;go_wp2_with fail
 refine(Qer _ _ _ _ _ (Ow.frame (X:=λ_=>False) C.o ?f0 (λc B=>⟨C.o.lt c B,not_false⟩)) S.o (by omega) (by omega)).mono ?_;case f0=>exact Q1.alloc (Q1.refl _ _) _
 rintro e w1 ⟨rfl,E⟩;have o:=λq=>Q1.cell E (b:=w.heap.size) (by simp) V q;have O:=qh E;clear E;go_wp2_with fail
 refine(Q75 _ _ _ _ _ (Ow.frame (X:=λc=>c∈H) M.o ?f1 (λc B=>⟨M.o.lt c B,λh=>U.o c h B⟩)) T.o (by omega) (by omega)).mono ?_;case f1=>exact Q1.trans (Q1.alloc (Q1.refl _ _) _) O.o
 rintro e w2 ⟨rfl,-,P⟩;have Y:=qh P;clear P;go_wp2;go_ret;refine⟨rfl,Q1.trans (Q1.trans (Q1.alloc (Q1.refl _ _) _) (Q1.mono O.o λc B=>At0.2 (.inl B))) (Q1.mono Y.o λc B=>At0.2 (.inr B))⟩
abbrev Qra(f:Nat)(t:Ty):Prop:=∀(w:Bh) (v:Bk) (xs:List t.den) (k:Int),Rd (.slice t) w [v] (mk (.slice t) xs k)->0<=k->k+(Z9 t xs:Nat)<=1000000000->Bq prog f #[v,I Z k] w λe w'=>e=.returned (I Z (k+(Z9 t xs:Nat)))/\Below w.heap.size w w'
theorem Qr8{n m:Int}(h:m=n):R (I Z m)=R (I Z n):=by rw[h]
theorem Q5i{t:Ty}{w:Bh}{v:Bk}{a b:t.den}(h:Rd t w [v] b)(e:a=b):Rd t w [v] a:=by rw[e];exact h
theorem Qr9:(True->True->True->Qra 80 Ty.int)/\(True->True->True->Qra 81 Q4)/\(True->True->True->Qra 43 Q4)/\(True->True->True->Qra 82 Qu)/\((Qra 80 Ty.int)->(Qra 81 Q4)->True->Qra 42 Q3)/\((Qra 43 Q4)->(Qra 82 Qu)->(Qra 80 Ty.int)->Qra 44 Qc)/\((Qra 42 Q3)->(Qra 43 Q4)->(Qra 44 Qc)->Qra 16 Qr):=by
 refine⟨?_, ?_, ?_, ?_, ?_, ?_, ?_⟩
 all_goals
  intro z h2 h3 w v xs k h h0 hb;have l:=qh z;have q:=qh h2;have H3:=qh h3;clear z h2 h3;obtain⟨p,AA,rfl,d,A0,hx⟩:=(Yz h).gen;clear h;unfold maxLen at A0;have A1:=Ji xs k;have HX:=qh hx;clear hx;rw[A1]at d A0⊢;clear A1;(first|(go_enter func80,ntmps80)|(go_enter func81,ntmps81)|(go_enter func43,ntmps43)|(go_enter func82,ntmps82)|(go_enter func42,ntmps42)|(go_enter func44,ntmps44)|(go_enter func16,ntmps16))
  go_wp2;go_loopw [1,5] (λkv r wr=>∃i:Nat,i<=xs.length/\r=I Z i/\kv=I Z (k+(Z9 _ (xs.take i):Nat))/\D (Below w.heap.size w wr)) (λ_ r _=>xs.length-(Bv r).toNat);case atStart=>exact⟨0,Ak _,rfl,by simp[Z9],Ai _ _⟩
  obtain⟨i,hi,rfl,rfl,E⟩:=hrel;by_cases s:i<xs.length;case neg=>have A5:=qh (Q2u (xs:=xs) (k:=i) (by omega));go_wp2;go_ret;exact⟨Qm (by rw[A5.o]),E.o⟩
  obtain⟨b,o,rfl,cs,A6,B,M⟩:=HX.o i (by rw[Ji];exact s);rw[Q99 xs k i s]at M;have f:=Q2x s;have P:=Q65 xs (i+1);generalize xs[i]=x at M f;rw[f]at P;have V:=qh f;clear f A6;generalize Z9 _ (xs.take i)=m at *
 ·obtain⟨rfl,_⟩:=M
  have C:Vc _ x=1:=by simp[Vc,Z9];try omega
  rw[C]at P;have K:=qh C;clear C;have B:=B.kept (Am E.o);simp only[Ty.sz,Cb]at B;have F:=Qac B;have W:=F.trans (Qr8 (n:=k+(m:Nat)) (by first|rfl|(simp[mk,Vc,Z9];omega)));clear B F;go_wp2;go_roundw;case rel=>exact⟨i+1,by omega,by go_num,(by rw[V.o,K.o];(first|go_num|(congr 1;omega)|(congr 1;push_cast;omega))),E⟩
  case measure=>simp[Bv];omega
 iterate 2
  ·obtain⟨_,_,rfl,⟨rfl,_⟩,⟨rfl,_⟩⟩:=M
   try simp only[Cc,Bt,Co,Dd]at *
   have C:Vc _ x=1+1:=by simp[Vc,Z9];try omega
   rw[C]at P;have K:=qh C;clear C;have B:=B.kept (Am E.o);simp only[Ty.sz,Bj]at B;obtain⟨F,G⟩:=Qcy B;have W:=F.trans (Qr8 (n:=k+(m:Nat)) (by first|rfl|(simp[mk,Vc,Z9];omega)));have g:=G.trans (Qr8 (n:=k+(m:Nat)+1) (by first|rfl|(simp[mk,Vc,Z9];omega)));clear B F G;go_wp2;go_roundw;case rel=>exact⟨i+1,by omega,by go_num,(by rw[V.o,K.o];(first|go_num|(congr 1;omega)|(congr 1;push_cast;omega))),E⟩
   case measure=>simp[Bv];omega
 ·obtain⟨_,_,rfl,⟨_,_,rfl,⟨rfl,_⟩,⟨rfl,_⟩⟩,⟨_,_,rfl,⟨rfl,_⟩,⟨rfl,_⟩⟩⟩:=M
  try simp only[Cc,Bt,Co,Dd]at *
  have C:Vc _ x=1+1+1+1:=by simp[Vc,Z9];try omega
  rw[C]at P;have K:=qh C;clear C;have B:=B.kept (Am E.o);simp only[Ty.sz,Bj]at B;obtain⟨F,G,L,S⟩:=Qm3 B;have W:=F.trans (Qr8 (n:=k+(m:Nat)) (by first|rfl|(simp[mk,Vc,Z9];omega)));have g:=G.trans (Qr8 (n:=k+(m:Nat)+1) (by first|rfl|(simp[mk,Vc,Z9];omega)));have e2:=L.trans (Qr8 (n:=k+(m:Nat)+1+1) (by first|rfl|(simp[mk,Vc,Z9];omega)));have e3:=S.trans (Qr8 (n:=k+(m:Nat)+1+1+1) (by first|rfl|(simp[mk,Vc,Z9];omega)));clear B F G L S;go_wp2;go_roundw;case rel=>exact⟨i+1,by omega,by go_num,(by rw[V.o,K.o];(first|go_num|(congr 1;omega)|(congr 1;push_cast;omega))),E⟩
  case measure=>simp[Bv];omega
 ·obtain⟨_,_,rfl,⟨rfl,_⟩,⟨_,_,rfl,⟨rfl,_⟩,⟨_,_,rfl,⟨rfl,_⟩,⟨_,_,rfl,s0,s1⟩⟩⟩⟩:=M
  obtain⟨X,rfl,s0⟩:=Q04 s0;obtain⟨v1,rfl,s1⟩:=Q04 s1;try simp only[Cc,Bt,Co,Dd]at *
  have C:Vc _ x=1+1+1+Z9 _ x.2.2.2.1+Z9 _ x.2.2.2.2:=by simp[Vc,Z9];try omega
  rw[C]at P;have K:=qh C;clear C;have A2:0<=(Z9 _ x.2.2.2.1:Int):=by omega
  have A3:0<=(Z9 _ x.2.2.2.2:Int):=by omega
  have B:=B.kept (Am E.o);simp only[Ty.sz,Bj]at B;obtain⟨F,G,L,S,r4⟩:=Q4b B;have W:=F.trans (Qr8 (n:=k+(m:Nat)) (by first|rfl|(simp[mk,Vc,Z9];omega)));have g:=G.trans (Qr8 (n:=k+(m:Nat)+1) (by first|rfl|(simp[mk,Vc,Z9];omega)));have e2:=L.trans (Qr8 (n:=k+(m:Nat)+1+1) (by first|rfl|(simp[mk,Vc,Z9];omega)));have Y:D (Rd (Ty.slice _) w [X] (mk (Ty.slice _) x.2.2.2.1 (k+(m:Nat)+1+1+1))):=qh ((Q5i s0 (by first|rfl|(change _=mk (Ty.slice _) x.2.2.2.1 _;congr 1;simp[Vc,Z9];omega))));clear s0;have a:D (Rd (Ty.slice _) w [v1] (mk (Ty.slice _) x.2.2.2.2 (k+(m:Nat)+1+1+1+(Z9 _ x.2.2.2.1:Nat)))):=qh ((Q5i s1 (by first|rfl|(change _=mk (Ty.slice _) x.2.2.2.2 _;congr 1;simp[Vc,Z9];omega))));clear s1;clear B F G L;have c:b<wr.heap.size:=Ac _ _ W;go_wp2_with fail
  refine(l.o _ _ _ _ (Rd.kept Y.o (Am E.o)) (by omega) (by omega)).mono ?_;rintro e w1 ⟨rfl,H⟩;have d:=(V8 H).1 b;have j:=Ap c H.size;have O:=qh (Q0 E.o H);clear H;go_wp2_with fail
  refine(q.o _ _ _ _ (Rd.kept a.o (Am O.o)) (by omega) (by omega)).mono ?_;rintro e w2 ⟨rfl,J⟩;have A4:=(V8 J).1 b;have T:=qh (Q0 O.o J);clear J;go_wp2;go_roundw;case rel=>exact⟨i+1,by omega,by go_num,(by rw[V.o,K.o];(first|go_num|(congr 1;omega)|(congr 1;push_cast;omega))),T⟩
  case measure=>simp[Bv];omega
 ·obtain⟨_,_,rfl,⟨rfl,_⟩,⟨_,_,rfl,⟨rfl,_⟩,⟨_,_,rfl,s0,⟨_,_,rfl,s1,s2⟩⟩⟩⟩:=M
  obtain⟨X,rfl,s0⟩:=Q04 s0;obtain⟨v1,rfl,s1⟩:=Q04 s1;obtain⟨t,rfl,s2⟩:=Q04 s2;try simp only[Cc,Bt,Co,Dd]at *
  have C:Vc _ x=1+1+Z9 _ x.2.2.1+Z9 _ x.2.2.2.1+Z9 _ x.2.2.2.2:=by simp[Vc,Z9];try omega
  rw[C]at P;have K:=qh C;clear C;have A2:0<=(Z9 _ x.2.2.1:Int):=by omega
  have A3:0<=(Z9 _ x.2.2.2.1:Int):=by omega
  have A7:0<=(Z9 _ x.2.2.2.2:Int):=by omega
  have B:=B.kept (Am E.o);simp only[Ty.sz,Bj]at B;obtain⟨F,G,L,S,r4⟩:=Q4b B;have W:=F.trans (Qr8 (n:=k+(m:Nat)) (by first|rfl|(simp[mk,Vc,Z9];omega)));have g:=G.trans (Qr8 (n:=k+(m:Nat)+1) (by first|rfl|(simp[mk,Vc,Z9];omega)));have Y:D (Rd (Ty.slice _) w [X] (mk (Ty.slice _) x.2.2.1 (k+(m:Nat)+1+1))):=qh ((Q5i s0 (by first|rfl|(change _=mk (Ty.slice _) x.2.2.1 _;congr 1;simp[Vc,Z9];omega))));clear s0;have a:D (Rd (Ty.slice _) w [v1] (mk (Ty.slice _) x.2.2.2.1 (k+(m:Nat)+1+1+(Z9 _ x.2.2.1:Nat)))):=qh ((Q5i s1 (by first|rfl|(change _=mk (Ty.slice _) x.2.2.2.1 _;congr 1;simp[Vc,Z9];omega))));clear s1;have u:D (Rd (Ty.slice _) w [t] (mk (Ty.slice _) x.2.2.2.2 (k+(m:Nat)+1+1+(Z9 _ x.2.2.1:Nat)+(Z9 _ x.2.2.2.1:Nat)))):=qh ((Q5i s2 (by first|rfl|(change _=mk (Ty.slice _) x.2.2.2.2 _;congr 1;simp[Vc,Z9];omega))));clear s2;clear B F G;have c:b<wr.heap.size:=Ac _ _ W;go_wp2_with fail
  refine(l.o _ _ _ _ (Rd.kept Y.o (Am E.o)) (by omega) (by omega)).mono ?_;rintro e w1 ⟨rfl,H⟩;have d:=(V8 H).1 b;have j:=Ap c H.size;have O:=qh (Q0 E.o H);clear H;go_wp2_with fail
  refine(q.o _ _ _ _ (Rd.kept a.o (Am O.o)) (by omega) (by omega)).mono ?_;rintro e w2 ⟨rfl,J⟩;have A4:=(V8 J).1 b;have A8:=Ap j J.size;have T:=qh (Q0 O.o J);clear J;go_wp2_with fail
  refine(H3.o _ _ _ _ (Rd.kept u.o (Am T.o)) (by omega) (by omega)).mono ?_;rintro e w3 ⟨rfl,U⟩;have A9:=(V8 U).1 b;have y:=qh (Q0 T.o U);clear U;go_wp2;go_roundw;case rel=>exact⟨i+1,by omega,by go_num,(by rw[V.o,K.o];(first|go_num|(congr 1;omega)|(congr 1;push_cast;omega))),y⟩
  case measure=>simp[Bv];omega
 ·obtain⟨_,_,rfl,⟨_,_,rfl,s0,⟨_,_,rfl,⟨rfl,_⟩,⟨_,_,rfl,⟨_,_,rfl,⟨rfl,_⟩,⟨rfl,_⟩⟩,s1⟩⟩⟩,⟨_,_,rfl,s2,⟨rfl,_⟩⟩⟩:=M
  obtain⟨X,rfl,s0⟩:=Q04 s0;obtain⟨v1,rfl,s1⟩:=Q04 s1;obtain⟨t,rfl,s2⟩:=Q04 s2;try simp only[Cc,Bt,Co,Dd]at *
  have C:Vc _ x=Z9 _ x.1.1+1+1+1+Z9 _ x.1.2.2.2+Z9 _ x.2.1+1:=by simp[Vc,Z9];try omega
  rw[C]at P;have K:=qh C;clear C;have A2:0<=(Z9 _ x.1.1:Int):=by omega
  have A3:0<=(Z9 _ x.1.2.2.2:Int):=by omega
  have A7:0<=(Z9 _ x.2.1:Int):=by omega
  have B:=B.kept (Am E.o);simp only[Ty.sz,Bj]at B;obtain⟨F,G,L,S,r4,r5,r6⟩:=Qpc B;have Y:D (Rd (Ty.slice _) w [X] (mk (Ty.slice _) x.1.1 (k+(m:Nat)))):=qh ((Q5i s0 (by first|rfl|(change _=mk (Ty.slice _) x.1.1 _;congr 1;simp[Vc,Z9];omega))));clear s0;have g:=G.trans (Qr8 (n:=k+(m:Nat)+(Z9 _ x.1.1:Nat)) (by first|rfl|(simp[mk,Vc,Z9];omega)));have e2:=L.trans (Qr8 (n:=k+(m:Nat)+(Z9 _ x.1.1:Nat)+1) (by first|rfl|(simp[mk,Vc,Z9];omega)));have e3:=S.trans (Qr8 (n:=k+(m:Nat)+(Z9 _ x.1.1:Nat)+1+1) (by first|rfl|(simp[mk,Vc,Z9];omega)));have a:D (Rd (Ty.slice _) w [v1] (mk (Ty.slice _) x.1.2.2.2 (k+(m:Nat)+(Z9 _ x.1.1:Nat)+1+1+1))):=qh ((Q5i s1 (by first|rfl|(change _=mk (Ty.slice _) x.1.2.2.2 _;congr 1;simp[Vc,Z9];omega))));clear s1;have u:D (Rd (Ty.slice _) w [t] (mk (Ty.slice _) x.2.1 (k+(m:Nat)+(Z9 _ x.1.1:Nat)+1+1+1+(Z9 _ x.1.2.2.2:Nat)))):=qh ((Q5i s2 (by first|rfl|(change _=mk (Ty.slice _) x.2.1 _;congr 1;simp[Vc,Z9];omega))));clear s2;have e6:=r6.trans (Qr8 (n:=k+(m:Nat)+(Z9 _ x.1.1:Nat)+1+1+1+(Z9 _ x.1.2.2.2:Nat)+(Z9 _ x.2.1:Nat)) (by first|rfl|(simp[mk,Vc,Z9];omega)));clear B G L S r6;have c:b<wr.heap.size:=Ac _ _ F;go_wp2_with fail
  refine(l.o _ _ _ _ (Rd.kept Y.o (Am E.o)) (by omega) (by omega)).mono ?_;rintro e w1 ⟨rfl,H⟩;have d:=(V8 H).1 b;have j:=Ap c H.size;have O:=qh (Q0 E.o H);clear H;go_wp2_with fail
  refine(q.o _ _ _ _ (Rd.kept a.o (Am O.o)) (by omega) (by omega)).mono ?_;rintro e w2 ⟨rfl,J⟩;have A4:=(V8 J).1 b;have A8:=Ap j J.size;have T:=qh (Q0 O.o J);clear J;go_wp2_with fail
  refine(H3.o _ _ _ _ (Rd.kept u.o (Am T.o)) (by omega) (by omega)).mono ?_;rintro e w3 ⟨rfl,U⟩;have A9:=(V8 U).1 b;have y:=qh (Q0 T.o U);clear U;go_wp2;go_roundw;case rel=>exact⟨i+1,by omega,by go_num,(by rw[V.o,K.o];(first|go_num|(congr 1;omega)|(congr 1;push_cast;omega))),y⟩
  case measure=>simp[Bv];omega
theorem Q7z:Qra 80 Ty.int:=Qr9.1 trivial trivial trivial
theorem Qfo:Qra 81 Q4:=Qr9.2.1 trivial trivial trivial
theorem Q98:Qra 43 Q4:=Qr9.2.2.1 trivial trivial trivial
theorem Qfr:Qra 82 Qu:=Qr9.2.2.2.1 trivial trivial trivial
theorem Qfx:Qra 42 Q3:=Qr9.2.2.2.2.1 Q7z Qfo trivial
theorem Qbx:Qra 44 Qc:=Qr9.2.2.2.2.2.1 Q98 Qfr Q7z
theorem Q9y:Qra 16 Qr:=Qr9.2.2.2.2.2.2 Qfx Q98 Qbx
end Go.Proofs.YthbpkpnioaniiaaGreat
