import Derived.Test.YthbpkpnioaniiaaGreatP13
set_option maxHeartbeats 40000000
set_option maxRecDepth 100000
set_option linter.all false
namespace Go.Proofs.YthbpkpnioaniiaaGreat
open Go.RowKit Go.Proofs.Tryz
open Go.Value renaming int->I,slice->A
open Go.IntKind renaming i64->Z
open Option renaming none->N,some->R
open Bool renaming false->Bm,true->Bn,false_and->Cn,and_false->Dp,eq_iff_iff->Eo,and_eq_true->Bl
open Go renaming World->Bh,Calls->Bq,Value->Bk
open Go.RowKit renaming Below->Bi
open List renaming range->Bz,mem_flatMap->Dk,mem_map->Eh,mem_filter->Dn,mem_range->Cy
open Nat renaming not_lt_zero->Da,reduceAdd->Bj,zero_add->Cd
theorem Q4i{α:Type}{l:List α}{f:α->Bool}(h:l.all f=Bm):(l.any λx=> !f x)=Bn:=by
 have:=Q32 l f;rw[h]at this;simpa using this
theorem Q44{α:Type}{l:List α}{f:α->Bool}(h:l.all f=Bn):(l.any λx=> !f x)=Bm:=by
 have:=Q32 l f;rw[h]at this;simpa using this
theorem Qok(w:Bh)(b o:Nat)(m:Qqp)(held:List Wd)(ph:Option Addr)(ch:Nat)(h:At Qo w b o m)(hh:Rd (.slice Q4) w [A ph held.length ch] held)(hz:(Z6 m).length+held.length<=10000000)(AZ:∀c∈mC m,(aW c).length<=100000000)(B0:(mX m).length<=100000000):
  Bq prog 112 #[.pointer (R ⟨b,o,N⟩),A ph held.length ch] w λe w'=>e=.returned (.bool (Q0g m held (mX m)))/\Bi w.heap.size w w':=by
 have HM:=qh h;obtain⟨M,hM⟩:∃M,M=m:=⟨_,rfl⟩;have BP:=qh hM;obtain⟨cs,f,⟨rt,ra⟩,xs⟩:=m;obtain⟨pc,cc,px,cx,⟨m0,-,-,-,m4⟩,-,⟨-,hm,B1⟩,⟨-,-,B2⟩⟩:=h.mem;rw[<-hM]at HM hz⊢;have HC:=qh B1;have HX:=qh B2;have HH:=qh hh;have T:D (mC M=cs):=qh (by rw[hM];rfl);have A3:D (mX M=xs):=qh (by rw[hM];rfl);have r:D ((Z6 M).length<=100000000/\(Z6 M).length+held.length<=1000000000/\(Z6 M).length+held.length<=10000000):=qh (by omega);have BM:D (∀c∈cs,(aW c).length<=100000000):=qh (AZ);have BQ:xs.length<=100000000:=B0;have BN:=Ac w _ m0;simp only at BN;unfold maxLen at hm;clear h B1 B2 hh hM hz AZ B0;obtain⟨i0,AL,AM,AN,AO⟩:=info_parts Vx;obtain⟨W0,AC⟩:∃W0,W0=w.alloc (.cells #[.pointer (R ⟨b,o,N⟩)] 104):=⟨_,rfl⟩;have A4:D (Bi w.heap.size w W0):=qh (by rw[AC];go_grown);have C:W0.cell? ⟨w.heap.size,0,N⟩=R (.pointer (R ⟨b,o,N⟩)):=by rw[AC];exact Q8 (heap_alloc_new w _) rfl
 have E:=(Am A4.o).cell _ _ m0;have F:=(Am A4.o).cell _ _ m4;have AD:=qh AC;clear AC m0 m4;by_cases q0:1<=cs.length/\cs.length<=1500;rotate_left
 ·have g:D (Q0g M held (mX M)=Bm):=qh (by
   have:Qqz cs.length 1 1500=Bm:=Q0h.2 (by omega);simp only[Q0g,T.o,this,Cn])
  by_cases q1:cs.length<1
  ·have AP:(cs.length:Int)<1:=by omega
   have B3:decide ((cs.length:Int)<1)=Bn:=by simpa using AP
   go_enter func112,ntmps112;go_upto_region 1 with fail
   rw[<-AD.o];go_quiet(fail)
   go_wp2;go_ret;exact⟨Q2 g.o.symm,Q6 A4.o _⟩
  ·have AP:¬(cs.length:Int)<1:=by omega
   have B4:decide ((cs.length:Int)<1)=Bm:=by simpa using AP
   have B3:(1500:Int)<cs.length:=by omega
   have B5:decide ((1500:Int)<(cs.length:Int))=Bn:=by simpa using B3
   go_enter func112,ntmps112;go_upto_region 1 with fail
   rw[<-AD.o];go_quiet(fail)
   go_wp2;go_ret;exact⟨Q2 g.o.symm,Q6 A4.o _⟩
 obtain⟨BR,BS⟩:=q0;have B4:decide ((cs.length:Int)<1)=Bm:=by simp;omega
 have B5:decide ((1500:Int)<(cs.length:Int))=Bm:=by simp;omega
 have BO:D (Qqz cs.length 1 1500=Bn):=qh (Ql.2 (by omega));by_cases q3:xs.length<=cs.length;rotate_left
 ·have g:D (Q0g M held (mX M)=Bm):=qh (by
   simp only[Q0g,T.o,A3.o,q3,decide_false,Cn,Dp])
  have B6:decide (cs.length<xs.length)=Bn:=by simp;omega
  go_enter func112,ntmps112;go_upto_region 1 with fail
  rw[<-AD.o];go_quiet(fail)
  go_wp2;go_ret;exact⟨Q2 g.o.symm,Q6 A4.o _⟩
 have B6:decide (cs.length<xs.length)=Bm:=by simp;omega
 have B7:=qh q3;go_enter func112,ntmps112;go_upto_region 1 with fail
 rw[<-AD.o];go_quiet(fail)
 go_upto_region 3 with fail
 refine Qq ?_;intro P B8;have B9:D (Bi W0.heap.size W0 P):=qh (by rw[B8];exact Q6 (Ai _ _) _);clear B8;have H:=qh (Q0 A4.o B9.o);have K:D (∀W,Bi P.heap.size P W->W.cell? ⟨w.heap.size,0,N⟩=R (.pointer (R ⟨b,o,N⟩))/\W.cell? ⟨b,o,N⟩=R (A pc cs.length cc)/\W.cell? ⟨b,o+4,N⟩=R (A px xs.length cx)):=qh (λW B=>have hk:=Am (Q0 B9.o B);⟨hk.cell _ _ C,hk.cell _ _ E,hk.cell _ _ F⟩);have U:D (∀W,Bi P.heap.size P W->At Qo W b o M):=qh (λW B=>HM.o.kept (Am (Q0 H.o B)));clear C E F B4 B5 B6 q3;obtain⟨C,E,F⟩:=K.o P (Ai _ _);obtain⟨WS,BA⟩:∃x,x=Z6 M++held:=⟨_,rfl⟩;have A5:=qh BA;clear BA;have AE:D (Vg prog 162):=qh (by intro _ _;kernel_rfl);have AQ:D (Vg prog 166):=qh (by intro _ _;kernel_rfl);have BB:D (Vg prog 169):=qh (by intro _ _;kernel_rfl);have AF:D (∀(W:Bh),Bi P.heap.size P W->∀(G:Bh) (vs:List Bk) (x:Q3.den),x∈cs->Bi W.heap.size W G->Rd Q3 G vs x->Bq prog 162 (#[.agg vs.toArray]++ #[]) G λe w'=>e=.returned (.bool (!Yg x))/\Bi G.heap.size G w'):=qh (λW _ G vs x hx _ hr=>Qpu G vs x hr (BM.o x hx));have AR:D (∀(W:Bh),Bi P.heap.size P W->∀(G:Bh) (vs:List Bk) (x:Q4.den),x∈WS->Bi W.heap.size W G->Rd Q4 G vs x->Bq prog 166 (#[.agg vs.toArray]++ #[.pointer (R ⟨w.heap.size,0,N⟩)]) G λe w'=>e=.returned (.bool (!Zh (mC M) x))/\Bi G.heap.size G w'):=qh (λW B G vs x _ y hr=>by obtain⟨t,a⟩:=x;obtain⟨rfl,-,ia⟩:=hr.wordV;exact Qpy G _ b o M (K.o G (Q0 B y)).1 (U.o G (Q0 B y)) t a ia);have BC:D (∀(W:Bh),Bi P.heap.size P W->∀(G:Bh) (vs:List Bk) (x:Q4.den),x∈xs->Bi W.heap.size W G->Rd Q4 G vs x->Bq prog 169 (#[.agg vs.toArray]++ #[.pointer (R ⟨w.heap.size,0,N⟩)]) G λe w'=>e=.returned (.bool (!Zx (mC M) x))/\Bi G.heap.size G w'):=qh (λW B G vs x _ y hr=>by obtain⟨t,a⟩:=x;obtain⟨rfl,-,-⟩:=hr.wordV;exact Qpo G _ b o M (K.o G (Q0 B y)).1 (U.o G (Q0 B y)) t a);cases r1:cs.all Yg with
 |false=>
  have A6:=qh (Q4i r1);have g:D (Q0g M held (mX M)=Bm):=qh (by simp only[Q0g,T.o,r1,Cn,Dp]);clear r1;go_wp2_with((go_at_call 161;(with_reducible refine(Q1x _ _ cs (λx=> !Yg x) _ _ (HC.o.kept (Am H.o)) AE.o (AF.o _ (Ai _ _))).mono ?_);rintro e w4 ⟨rfl,B⟩;have O:=qh B;clear B;rw[A6.o];clear C E F;obtain⟨C,E,F⟩:=K.o _ O.o))
  go_ret;exact⟨Q2 g.o.symm,Q0 H.o O.o⟩
 |true=>
 have A6:=qh (Q44 r1);have BD:=qh r1;clear r1;cases r2:WS.all (Zh (mC M))with
 |false=>
  have AG:=qh (Q4i r2);have g:D (Q0g M held (mX M)=Bm):=qh (by simp only[Q0g,<-A5.o,r2,Cn,Dp]);clear r2;go_wp2_with(first|((go_at_call 161;(with_reducible refine(Q1x _ _ cs (λx=> !Yg x) _ _ (HC.o.kept (Am H.o)) AE.o (AF.o _ (Ai _ _))).mono ?_);rintro e w4 ⟨rfl,B⟩;have O:=qh B;clear B;rw[A6.o];clear C E F;obtain⟨C,E,F⟩:=K.o _ O.o))|((go_at_call 165;(with_reducible refine(Q8t _ b o M (U.o _ O.o) r.o.1).mono ?_);rintro e w5 ⟨BE,rfl,z,B⟩;have V:=qh z;have s:=qh (Q0 O.o B);have X:=qh B;clear z B;obtain⟨A7,A8,rfl,-,-⟩:=V.o.form))|((at_builtin;refine Q0y _ rfl (.tmp 43) (.tmp 44) 132 rfl (t:=Q4) (v:=A A7 (Z6 M).length A8) (xs:=Z6 M) (ys:=held) rfl (by decide) w4.heap.size 40 i0 _ 16 underlying132 AL AM AN AO rfl (by decide) rfl rfl V.o (HH.o.kept (Am (Q0 H.o s.o))) r.o.2.1 X.o.size ?_;intro BF w6 A0 A1;have J:=qh (Q0 O.o (V.o.grew X.o X.o.size A1));have u:=qh (A0.eqL A5.o.symm);clear A0 A1;obtain⟨BG,BH,rfl,-,-⟩:=u.o.form))|((go_at_call 164;(with_reducible refine(Q3h _ _ WS (λx=> !Zh (mC M) x) _ _ (u.o.rd rfl) AQ.o (AR.o _ J.o)).mono ?_);rintro e w7 ⟨rfl,B⟩;have L:=qh (Q0 J.o B);clear B;rw[AG.o];clear C E F;obtain⟨C,E,F⟩:=K.o _ L.o))|fail)
  go_ret;exact⟨Q2 g.o.symm,Q0 H.o L.o⟩
 |true=>
 have AG:=qh (Q44 r2);have BI:=qh r2;clear r2;cases r3:xs.all (Zx (mC M))with
 |false=>
  have AS:=qh (Q4i r3);have g:D (Q0g M held (mX M)=Bm):=qh (by simp only[Q0g,A3.o,r3,Cn,Dp]);clear r3;go_wp2_with(first|((go_at_call 161;(with_reducible refine(Q1x _ _ cs (λx=> !Yg x) _ _ (HC.o.kept (Am H.o)) AE.o (AF.o _ (Ai _ _))).mono ?_);rintro e w4 ⟨rfl,B⟩;have O:=qh B;clear B;rw[A6.o];clear C E F;obtain⟨C,E,F⟩:=K.o _ O.o))|((go_at_call 165;(with_reducible refine(Q8t _ b o M (U.o _ O.o) r.o.1).mono ?_);rintro e w5 ⟨BE,rfl,z,B⟩;have V:=qh z;have s:=qh (Q0 O.o B);have X:=qh B;clear z B;obtain⟨A7,A8,rfl,-,-⟩:=V.o.form))|((at_builtin;refine Q0y _ rfl (.tmp 43) (.tmp 44) 132 rfl (t:=Q4) (v:=A A7 (Z6 M).length A8) (xs:=Z6 M) (ys:=held) rfl (by decide) w4.heap.size 40 i0 _ 16 underlying132 AL AM AN AO rfl (by decide) rfl rfl V.o (HH.o.kept (Am (Q0 H.o s.o))) r.o.2.1 X.o.size ?_;intro BF w6 A0 A1;have J:=qh (Q0 O.o (V.o.grew X.o X.o.size A1));have u:=qh (A0.eqL A5.o.symm);clear A0 A1;obtain⟨BG,BH,rfl,-,-⟩:=u.o.form))|((go_at_call 164;(with_reducible refine(Q3h _ _ WS (λx=> !Zh (mC M) x) _ _ (u.o.rd rfl) AQ.o (AR.o _ J.o)).mono ?_);rintro e w7 ⟨rfl,B⟩;have L:=qh (Q0 J.o B);clear B;rw[AG.o];clear C E F;obtain⟨C,E,F⟩:=K.o _ L.o))|((go_at_call 168;(with_reducible refine(Q5o _ _ xs (λx=> !Zx (mC M) x) _ _ (HX.o.kept (Am (Q0 H.o L.o))) BB.o (BC.o _ L.o)).mono ?_);rintro e w8 ⟨rfl,B⟩;have S:=qh (Q0 L.o B);clear B;rw[AS.o];clear C E F;obtain⟨C,E,F⟩:=K.o _ S.o))|fail)
  go_ret;exact⟨Q2 g.o.symm,Q0 H.o S.o⟩
 |true=>
 have AS:=qh (Q44 r3);have BJ:=qh r3;clear r3;go_upto_region 5 with(first|((go_at_call 161;(with_reducible refine(Q1x _ _ cs (λx=> !Yg x) _ _ (HC.o.kept (Am H.o)) AE.o (AF.o _ (Ai _ _))).mono ?_);rintro e w4 ⟨rfl,B⟩;have O:=qh B;clear B;rw[A6.o];clear C E F;obtain⟨C,E,F⟩:=K.o _ O.o))|((go_at_call 165;(with_reducible refine(Q8t _ b o M (U.o _ O.o) r.o.1).mono ?_);rintro e w5 ⟨BE,rfl,z,B⟩;have V:=qh z;have s:=qh (Q0 O.o B);have X:=qh B;clear z B;obtain⟨A7,A8,rfl,-,-⟩:=V.o.form))|((at_builtin;refine Q0y _ rfl (.tmp 43) (.tmp 44) 132 rfl (t:=Q4) (v:=A A7 (Z6 M).length A8) (xs:=Z6 M) (ys:=held) rfl (by decide) w4.heap.size 40 i0 _ 16 underlying132 AL AM AN AO rfl (by decide) rfl rfl V.o (HH.o.kept (Am (Q0 H.o s.o))) r.o.2.1 X.o.size ?_;intro BF w6 A0 A1;have J:=qh (Q0 O.o (V.o.grew X.o X.o.size A1));have u:=qh (A0.eqL A5.o.symm);clear A0 A1;obtain⟨BG,BH,rfl,-,-⟩:=u.o.form))|((go_at_call 164;(with_reducible refine(Q3h _ _ WS (λx=> !Zh (mC M) x) _ _ (u.o.rd rfl) AQ.o (AR.o _ J.o)).mono ?_);rintro e w7 ⟨rfl,B⟩;have L:=qh (Q0 J.o B);clear B;rw[AG.o];clear C E F;obtain⟨C,E,F⟩:=K.o _ L.o))|((go_at_call 168;(with_reducible refine(Q5o _ _ xs (λx=> !Zx (mC M) x) _ _ (HX.o.kept (Am (Q0 H.o L.o))) BB.o (BC.o _ L.o)).mono ?_);rintro e w8 ⟨rfl,B⟩;have S:=qh (Q0 L.o B);clear B;rw[AS.o];clear C E F;obtain⟨C,E,F⟩:=K.o _ S.o))|fail)
 have A9:D (∀x∈Z6 M++held,Zh (mC M) x=Bn):=qh (by rw[<-A5.o];exact Bf.1 BI.o);have AH:D (∀p∈mX M,Zx (mC M) p=Bn):=qh (by rw[A3.o];exact Bf.1 BJ.o);have AT:D (Qi6 (mC M) (Z6 M++held) (mX M)=(Bz cs.length).all λi=>Q5d (Qn cs i) (Jg (Z6 M++held) (mX M) i)):=qh (by rw[Qo5 (by rw[T.o];exact Bf.1 BD.o) A9.o AH.o,T.o]);have Y:D (1<=(mC M).length/\(mC M).length<=1500/\(mX M).length<=1500):=qh (by rw[T.o,A3.o];have:=B7.o;omega);have BK:D (Q7d (mC M)):=qh (λc hc x hx=>A9.o x (Ag _ (Aa _ (Dk.2 ⟨c,hc,hx⟩))));have AI:D (Q0g M held (mX M)=(((Bz cs.length).all λi=>Q5d (Qn cs i) (Jg (Z6 M++held) (mX M) i)) && ((Bz cs.length).all (Q5x cs) && Zg (mC M) (Z3 (mC M)) (mF M)))):=qh (by
  rw[Qbe (by rw[T.o];exact BO.o) (by rw[T.o,A3.o];exact B7.o) (by rw[T.o];exact BD.o) (by rw[<-A5.o];exact BI.o) (by rw[A3.o];exact BJ.o)];unfold Q9v;rw[T.o,<-Bool.and_assoc];congr 1
  rw[Eo];simp only[Bl,List.all_eq_true];exact⟨λh=>⟨λi hi=>(h i hi).1,λi hi=>(h i hi).2⟩,λh i hi=>⟨h.1 i hi,h.2 i hi⟩⟩)
 clear V u O s J X L;cases u1:(Bz cs.length).all λi=>Q5d (Qn cs i) (Jg (Z6 M++held) (mX M) i)with
 |false=>
  have HU:=qh u1;go_wp2_with((go_at_call 171;(with_reducible refine(Qkz _ b o M held ph ch (U.o _ S.o) (HH.o.kept (Am (Q0 H.o S.o))) r.o.2.2 Y.o.1 Y.o.2.1 Y.o.2.2 A9.o AH.o).mono ?_);rintro e w9 ⟨rfl,B⟩;have n:=qh (Q0 S.o B);clear B;rw[AT.o,HU.o]))
  go_ret;exact⟨Q2 (by rw[AI.o,HU.o];rfl),Q0 H.o n.o⟩
 |true=>
 have HU:=qh u1;clear u1;cases f1:Zg (mC M) (Z3 (mC M)) (mF M)with
 |false=>
  have HF:=qh f1;go_wp2_with(first|((go_at_call 171;(with_reducible refine(Qkz _ b o M held ph ch (U.o _ S.o) (HH.o.kept (Am (Q0 H.o S.o))) r.o.2.2 Y.o.1 Y.o.2.1 Y.o.2.2 A9.o AH.o).mono ?_);rintro e w9 ⟨rfl,B⟩;have n:=qh (Q0 S.o B);clear B;rw[AT.o,HU.o];clear C E F;obtain⟨C,E,F⟩:=K.o _ n.o))|((go_at_call 172;(with_reducible refine(Qeu _ b o M (U.o _ n.o)).mono ?_);rintro e wA ⟨rfl,B⟩;have AA:=qh (Q0 n.o B);clear B;rw[HF.o]))|fail)
  go_ret;exact⟨Q2 (by rw[AI.o,HF.o,Dp,Dp]),Q0 H.o AA.o⟩
 |true=>
 have HF:=qh f1;clear f1;go_upto_region 8 with(first|((go_at_call 171;(with_reducible refine(Qkz _ b o M held ph ch (U.o _ S.o) (HH.o.kept (Am (Q0 H.o S.o))) r.o.2.2 Y.o.1 Y.o.2.1 Y.o.2.2 A9.o AH.o).mono ?_);rintro e w9 ⟨rfl,B⟩;have n:=qh (Q0 S.o B);clear B;rw[AT.o,HU.o];clear C E F;obtain⟨C,E,F⟩:=K.o _ n.o))|((go_at_call 172;(with_reducible refine(Qeu _ b o M (U.o _ n.o)).mono ?_);rintro e wA ⟨rfl,B⟩;have AA:=qh (Q0 n.o B);clear B;rw[HF.o];clear C E F;obtain⟨C,E,F⟩:=K.o _ AA.o))|fail)
 clear S n C E F;go_loopw [71] (λi wr=>∃(j:Nat),j<=cs.length/\i=I Z j/\D (∀q:Nat,q<j->Q5x cs q=Bn)/\D (Bi P.heap.size P wr)) (λi _=>cs.length-(intOf i).toNat);case atStart=>exact⟨0,Ak _,rfl,λq h=>absurd h (Da _),AA.o⟩
 case round=>
  obtain⟨j,hj,rfl,HK,HB⟩:=hrel;clear AA;by_cases AU:j<cs.length
  ·obtain⟨C,E,F⟩:=K.o _ HB.o
   obtain⟨b2,o2,rfl,hA⟩:=Rd.elem (HC.o.kept (Am (Q0 H.o HB.o))) j AU;generalize hx:cs[j]=x at hA;obtain⟨k,l,v,d,ws⟩:=x;have HX:D (Qn cs j=(k,l,v,d,ws)):=qh (by rw[Qx AU,hx]);clear hx;obtain⟨pd,cd,pw,cw,⟨e0,e1,e2,e3,e4⟩,-,-,-⟩:=hA.agent;have HA:=qh (hA.rdv e3 e4);simp only[Ty.sz,Bj]at e0 e1 e2 e3 e4;have y:=Ac wr _ e0;simp only at y;clear hA;go_upto_region 10 with fail
   refine Qq ?_;intro W5 AV;have s:D (Bi wr.heap.size wr W5):=qh (by rw[AV];go_grown);obtain⟨g0,g1,g2,g3,g4⟩:=Q0n wr (I Z k) (I Z l) (I Z v) (A pd d.length cd) (A pw ws.length cw) 134;rw[<-AV]at g0 g1 g2 g3 g4;clear AV e0 e1 e2 e3 e4 y C E F;have AW:=qh (HA.o.kept (Am s.o));have AX:=qh (Q0 HB.o s.o);by_cases AJ:k=13
   ·have A2:D ((k==13)=Bn):=qh (by simp[AJ])
    have BL:D (Zh (mC M) (2,(j:Int))=Bn):=qh (by
     rw[T.o];have h1:Qqz (j:Int) 0 ((cs.length:Int)-1)=Bn:=Ql.2 (by omega);have h2:Q7 cs (j:Int)=Qn cs j:=by simp[Q7]
     simp only[Zh,h1,h2,HX.o,aK,A2.o];rfl)
    have AK:D (Qqm 2/\Qqm (j:Int)):=qh (by unfold Qqm;omega);clear AJ;cases ev:Jr cs (cs.length+1) (2,(j:Int))
    ·have HE:D (Jr (mC M) ((mC M).length+1) (2,(j:Int))=Bm):=qh (by rw[T.o];exact ev)
     have AB:D (Q5x cs j=Bm):=qh (by simp only[Q5x,HX.o,aK,A2.o,ev];rfl);clear ev;go_wp2_with(first|((go_at_call 173;(with_reducible refine(Q0r _ [I Z k,I Z l,I Z v,A pd d.length cd,A pw ws.length cw] _ AW.o).mono ?_);rintro e w6 ⟨rfl,B⟩;have J:=qh (Q0 AX.o B);clear B;obtain⟨C,E,F⟩:=K.o _ J.o;simp only[aK];rw[A2.o]))|((go_at_call 174;(with_reducible refine(Qbq _ b o M 2 (j:Int) (U.o _ J.o) AK.o.1 AK.o.2 BL.o BK.o Y.o.2.1).mono ?_);rintro e w7 ⟨t',a',rfl,B⟩;have L:=qh (Q0 J.o B);clear B;rw[HE.o]))|fail)
     go_ret;exact⟨Q2 (by rw[AI.o,HU.o,HF.o,Yo j AU AB.o];rfl),Q0 H.o (L.o.alloc L.o.size _)⟩
    ·have HE:D (Jr (mC M) ((mC M).length+1) (2,(j:Int))=Bn):=qh (by rw[T.o];exact ev)
     have AB:D (Q5x cs j=Bn):=qh (by simp only[Q5x,HX.o,aK,A2.o,ev];rfl);clear ev;go_wp2_with(first|((go_at_call 173;(with_reducible refine(Q0r _ [I Z k,I Z l,I Z v,A pd d.length cd,A pw ws.length cw] _ AW.o).mono ?_);rintro e w6 ⟨rfl,B⟩;have J:=qh (Q0 AX.o B);clear B;obtain⟨C,E,F⟩:=K.o _ J.o;simp only[aK];rw[A2.o]))|((go_at_call 174;(with_reducible refine(Qbq _ b o M 2 (j:Int) (U.o _ J.o) AK.o.1 AK.o.2 BL.o BK.o Y.o.2.1).mono ?_);rintro e w7 ⟨t',a',rfl,B⟩;have L:=qh (Q0 J.o B);clear B;rw[HE.o]))|fail)
     go_roundw;case rel=>exact⟨j+1,by omega,by go_num,λq hq=>(by
      by_cases AY:q=j
      ·subst AY;exact AB.o
      ·exact HK.o q (by omega)),(show Bi P.heap.size P _ from L.o.alloc L.o.size _)⟩
     case measure=>simp[intOf];omega
   ·have A2:D ((k==13)=Bm):=qh (by simp[AJ])
    have AB:D (Q5x cs j=Bn):=qh (by simp only[Q5x,HX.o,aK,A2.o];rfl);clear AJ;go_wp2_with((go_at_call 173;(with_reducible refine(Q0r _ [I Z k,I Z l,I Z v,A pd d.length cd,A pw ws.length cw] _ AW.o).mono ?_);rintro e w6 ⟨rfl,B⟩;have J:=qh (Q0 AX.o B);clear B;obtain⟨C,E,F⟩:=K.o _ J.o;simp only[aK];rw[A2.o]))
    go_roundw;case rel=>exact⟨j+1,by omega,by go_num,λq hq=>(by
     by_cases AY:q=j
     ·subst AY;exact AB.o
     ·exact HK.o q (by omega)),J.o⟩
    case measure=>simp[intOf];omega
  ·have BT:cs.length<=j:=by omega
   go_wp2_with fail
   go_ret;exact⟨Q2 (by rw[AI.o,HU.o,HF.o,Q13 λi hi=>HK.o i (by omega)];rfl),Q0 H.o HB.o⟩
theorem Qis(w:Bh)(n:Int):Bq prog 199 #[I Z n] w λe w'=>e=.returned (.bool (!Qqz n 0 1000000000))/\Bi w.heap.size w w':=by
 go_enter func199,ntmps199;go_wp2;all_goals(go_ret;exact⟨Q2 (by rw[Eo];first|(simp[Qqz];done)|(simp[Qqz];omega)),Ai _ _⟩)
theorem Q3t(w:Bh)(p:Option Addr)(c:Nat)(l:List Int)(h:Rd (.slice .int) w [A p l.length c] l):Bq prog 160 #[A p l.length c] w λe w'=>e=.returned (.bool (Q06 l))/\Bi w.heap.size w w':=by
 have H:=qh h;have G:D (Vg prog 199):=qh (by intro _ _;kernel_rfl);have J:D (∀(B:Bh) (x:Ty.int.den),x∈l->Bi w.heap.size w B->Bq prog 199 (#[I Z x]++ #[]) B λe w'=>e=.returned (.bool (!(λn=>Qqz n 0 1000000000) x))/\Bi B.heap.size B w'):=qh (λB x _ _=>Qis B x);clear h;by_cases q:l.length=7
 ·have C:((l.length:Int)==7)=Bn:=by simp[q]
  have E:D (Q06 l=l.all λn=>Qqz n 0 1000000000):=qh (by unfold Q06;rw[C];rfl);clear q;go_enter func160,ntmps160;go_wp2_with((go_at_call 198;(with_reducible refine(Q1h _ _ l (λx=> !(λn=>Qqz n 0 1000000000) x) _ _ H.o G.o J.o).mono ?_);rintro e w1 ⟨rfl,F⟩;have K:=qh F;clear F))
  go_ret;exact⟨Q2 (by rw[E.o,Q32]),K.o⟩
 ·have C:((l.length:Int)==7)=Bm:=by simp;omega
  have E:D (Q06 l=Bm):=qh (by unfold Q06;rw[C];rfl);go_enter func160,ntmps160;go_wp2;go_ret;exact⟨Q2 E.o.symm,Ai _ _⟩
theorem Qk3(w:Bh)(vs:List Bk)(x:Qqb)(h:Rd Qc w vs x):Bq prog 110 #[.agg vs.toArray] w λe w'=>e=.returned (.bool (Y3 x))/\Bi w.heap.size w w':=by
 obtain⟨B,C,xs,E,cs⟩:=x;obtain⟨px,cx,F,G,H,J,rfl,-⟩:=h.workerV;clear h;go_enter func110,ntmps110;go_wp2;all_goals(go_ret;exact⟨Q2 (by simp_all[Y3,wP]),by go_grown⟩)
theorem Q92(w:Bh)(vs:List Bk)(x:Qqb)(n:Nat)(h:Rd Qc w vs x):Bq prog 108 #[.agg vs.toArray,I Z n] w λe w'=>e=.returned (.bool (Zw n x))/\Bi w.heap.size w w':=by
 obtain⟨G,L,xs,F,cs⟩:=x;obtain⟨px,cx,a,b,U,V,rfl,-,-,-,⟨-,-,u⟩⟩:=h.workerV;have d:=qh u;clear h u;obtain⟨C,i⟩:∃C,C=Q06 cs:=⟨_,rfl⟩;have f:=qh i.symm;have c:D (Zw n (G,L,xs,F,cs)=(!(decide (G<1)||decide (4<G)||decide (L<0)||decide ((n:Int)<=L)|| !C||decide ((1500:Int)<(F.length:Int))) && (G==1||(((xs.length:Int)==0) && ((F.length:Int)==0))))):=qh (by show((Qqz G 1 4 && (Qqz L 0 ((n:Int)-1) && (Q06 cs && decide (F.length<=1500)))) && (G==1||(xs.length==0 && F.length==0)))=_;rw[<-i];rw[show(xs.length==0)=((xs.length:Int)==0)by rw[Eo];simp,show(F.length==0)=((F.length:Int)==0)by rw[Eo];simp];generalize ((xs.length:Int)==0)=X;generalize ((F.length:Int)==0)=Y;generalize hp:(G==1)=A0;clear hp;rw[Eo];cases C<;>cases X<;>cases Y<;>cases A0<;>simp[Qqz]<;>omega);clear i;by_cases q0:G<1
 ·have b0:decide (G<1)=Bn:=by simpa using q0
  have O:D (Zw n (G,L,xs,F,cs)=Bm):=qh (by rw[c.o];simp[q0]);go_enter func108,ntmps108;go_upto_region 1 with fail
  refine Qq ?_;intro P B;have M:D (Bi w.heap.size w P):=qh (by rw[B];go_grown);obtain⟨H,S,J,K,T⟩:=Q0n w (I Z G) (I Z L) (A px xs.length cx) (A a F.length b) (A U cs.length V) 99;rw[<-B]at H S J K T;clear B;go_wp2;go_ret;exact⟨Q2 O.o.symm,M.o⟩
 have b0:decide (G<1)=Bm:=by simpa using q0
 by_cases q1:4<G
 ·have v:decide (4<G)=Bn:=by simpa using q1
  have O:D (Zw n (G,L,xs,F,cs)=Bm):=qh (by rw[c.o];simp[q1]);go_enter func108,ntmps108;go_upto_region 1 with fail
  refine Qq ?_;intro P B;have M:D (Bi w.heap.size w P):=qh (by rw[B];go_grown);obtain⟨H,S,J,K,T⟩:=Q0n w (I Z G) (I Z L) (A px xs.length cx) (A a F.length b) (A U cs.length V) 99;rw[<-B]at H S J K T;clear B;go_wp2;go_ret;exact⟨Q2 O.o.symm,M.o⟩
 have v:decide (4<G)=Bm:=by simpa using q1
 by_cases j:L<0
 ·have k:decide (L<0)=Bn:=by simpa using j
  have O:D (Zw n (G,L,xs,F,cs)=Bm):=qh (by rw[c.o];simp[j]);go_enter func108,ntmps108;go_upto_region 1 with fail
  refine Qq ?_;intro P B;have M:D (Bi w.heap.size w P):=qh (by rw[B];go_grown);obtain⟨H,S,J,K,T⟩:=Q0n w (I Z G) (I Z L) (A px xs.length cx) (A a F.length b) (A U cs.length V) 99;rw[<-B]at H S J K T;clear B;go_wp2;go_ret;exact⟨Q2 O.o.symm,M.o⟩
 have k:decide (L<0)=Bm:=by simpa using j
 by_cases l:(n:Int)<=L
 ·have m:decide ((n:Int)<=L)=Bn:=by simpa using l
  have O:D (Zw n (G,L,xs,F,cs)=Bm):=qh (by rw[c.o];simp[l]);go_enter func108,ntmps108;go_upto_region 1 with fail
  refine Qq ?_;intro P B;have M:D (Bi w.heap.size w P):=qh (by rw[B];go_grown);obtain⟨H,S,J,K,T⟩:=Q0n w (I Z G) (I Z L) (A px xs.length cx) (A a F.length b) (A U cs.length V) 99;rw[<-B]at H S J K T;clear B;go_wp2;go_ret;exact⟨Q2 O.o.symm,M.o⟩
 have m:decide ((n:Int)<=L)=Bm:=by simpa using l
 cases C with
 |false=>
  have O:D (Zw n (G,L,xs,F,cs)=Bm):=qh (by rw[c.o];simp);go_enter func108,ntmps108;go_upto_region 1 with fail
  refine Qq ?_;intro P B;have M:D (Bi w.heap.size w P):=qh (by rw[B];go_grown);obtain⟨H,S,J,K,T⟩:=Q0n w (I Z G) (I Z L) (A px xs.length cx) (A a F.length b) (A U cs.length V) 99;rw[<-B]at H S J K T;clear B;go_wp2_with((go_at_call 160;(with_reducible refine(Q3t _ U V cs (d.o.kept (Am M.o))).mono ?_);rintro e w1 ⟨rfl,E⟩;rw[f.o];have H:=(Am E).cell _ _ H;have J:=(Am E).cell _ _ J;have K:=(Am E).cell _ _ K;have W:=qh (Q0 M.o E);clear E))
  go_ret;exact⟨Q2 O.o.symm,W.o⟩
 |true=>
 by_cases o:(1500:Int)<(F.length:Int)
 ·have p:decide ((1500:Int)<(F.length:Int))=Bn:=by simpa using o
  have O:D (Zw n (G,L,xs,F,cs)=Bm):=qh (by rw[c.o];simp[o]);go_enter func108,ntmps108;go_upto_region 1 with fail
  refine Qq ?_;intro P B;have M:D (Bi w.heap.size w P):=qh (by rw[B];go_grown);obtain⟨H,S,J,K,T⟩:=Q0n w (I Z G) (I Z L) (A px xs.length cx) (A a F.length b) (A U cs.length V) 99;rw[<-B]at H S J K T;clear B;go_wp2_with((go_at_call 160;(with_reducible refine(Q3t _ U V cs (d.o.kept (Am M.o))).mono ?_);rintro e w1 ⟨rfl,E⟩;rw[f.o];have H:=(Am E).cell _ _ H;have J:=(Am E).cell _ _ J;have K:=(Am E).cell _ _ K;have W:=qh (Q0 M.o E);clear E))
  go_ret;exact⟨Q2 O.o.symm,W.o⟩
 have p:decide ((1500:Int)<(F.length:Int))=Bm:=by simpa using o
 by_cases g:G=1
 ·subst g
  have O:D (Zw n (1,L,xs,F,cs)=Bn):=qh (by rw[c.o,k,m,p];rfl);go_enter func108,ntmps108;go_upto_region 1 with fail
  refine Qq ?_;intro P B;have M:D (Bi w.heap.size w P):=qh (by rw[B];go_grown);obtain⟨H,S,J,K,T⟩:=Q0n w (I Z 1) (I Z L) (A px xs.length cx) (A a F.length b) (A U cs.length V) 99;rw[<-B]at H S J K T;clear B;go_wp2_with((go_at_call 160;(with_reducible refine(Q3t _ U V cs (d.o.kept (Am M.o))).mono ?_);rintro e w1 ⟨rfl,E⟩;rw[f.o];have H:=(Am E).cell _ _ H;have J:=(Am E).cell _ _ J;have K:=(Am E).cell _ _ K;have W:=qh (Q0 M.o E);clear E))
  go_ret;exact⟨Q2 O.o.symm,W.o⟩
 have b6:(G==1)=Bm:=by simpa using g
 by_cases q:xs.length=0;rotate_left
 ·have r:((xs.length:Int)==0)=Bm:=by simp;intro e;exact q (by rw[e];rfl)
  have O:D (Zw n (G,L,xs,F,cs)=Bm):=qh (by rw[c.o,r];simp[g]);go_enter func108,ntmps108;go_upto_region 1 with fail
  refine Qq ?_;intro P B;have M:D (Bi w.heap.size w P):=qh (by rw[B];go_grown);obtain⟨H,S,J,K,T⟩:=Q0n w (I Z G) (I Z L) (A px xs.length cx) (A a F.length b) (A U cs.length V) 99;rw[<-B]at H S J K T;clear B;go_wp2_with((go_at_call 160;(with_reducible refine(Q3t _ U V cs (d.o.kept (Am M.o))).mono ?_);rintro e w1 ⟨rfl,E⟩;rw[f.o];have H:=(Am E).cell _ _ H;have J:=(Am E).cell _ _ J;have K:=(Am E).cell _ _ K;have W:=qh (Q0 M.o E);clear E))
  go_ret;exact⟨Q2 O.o.symm,W.o⟩
 have s:D (((xs.length:Int)==0)=Bn):=qh (by simp[q]);clear q;by_cases t:F.length=0;rotate_left
 ·have y:((F.length:Int)==0)=Bm:=by simp;intro e;exact t (by rw[e];rfl)
  have O:D (Zw n (G,L,xs,F,cs)=Bm):=qh (by rw[c.o,y];simp[g]);go_enter func108,ntmps108;go_upto_region 1 with fail
  refine Qq ?_;intro P B;have M:D (Bi w.heap.size w P):=qh (by rw[B];go_grown);obtain⟨H,S,J,K,T⟩:=Q0n w (I Z G) (I Z L) (A px xs.length cx) (A a F.length b) (A U cs.length V) 99;rw[<-B]at H S J K T;clear B;have r:=s.o;go_wp2_with((go_at_call 160;(with_reducible refine(Q3t _ U V cs (d.o.kept (Am M.o))).mono ?_);rintro e w1 ⟨rfl,E⟩;rw[f.o];have H:=(Am E).cell _ _ H;have J:=(Am E).cell _ _ J;have K:=(Am E).cell _ _ K;have W:=qh (Q0 M.o E);clear E))
  go_ret;exact⟨Q2 O.o.symm,W.o⟩
 have z:D (((F.length:Int)==0)=Bn):=qh (by simp[t]);clear t;have O:D (Zw n (G,L,xs,F,cs)=Bn):=qh (by rw[c.o,b0,v,k,m,p,b6,s.o,z.o];rfl);go_enter func108,ntmps108;go_upto_region 1 with fail
 refine Qq ?_;intro P B;have M:D (Bi w.heap.size w P):=qh (by rw[B];go_grown);obtain⟨H,S,J,K,T⟩:=Q0n w (I Z G) (I Z L) (A px xs.length cx) (A a F.length b) (A U cs.length V) 99;rw[<-B]at H S J K T;clear B;have r:=s.o;have y:=z.o;go_wp2_with((go_at_call 160;(with_reducible refine(Q3t _ U V cs (d.o.kept (Am M.o))).mono ?_);rintro e w1 ⟨rfl,E⟩;rw[f.o];have H:=(Am E).cell _ _ H;have J:=(Am E).cell _ _ J;have K:=(Am E).cell _ _ K;have W:=qh (Q0 M.o E);clear E))
 go_ret;exact⟨Q2 O.o.symm,W.o⟩
def Yt(n:Qr2)(at_:List Int)(K:Nat)(m:Qqp)(l:List Nat):Prop:=(mC m).length=K/\Yf m l/\∀i,1<=i->i<n.length->0<=at_.getD i 0/\at_.getD i 0<K/\(at_.getD i 0).toNat∉l/\(aW (Q7 (mC m) (at_.getD i 0))).length=(aW (Qn n i)).length-1
theorem Yt.set{n:Qr2}{at_:List Int}{K:Nat}{m:Qqp}{l:List Nat}(h:Yt n at_ K m l){c k:Int}{x:Wd}(C:c.toNat∉l):Yt n at_ K (Qh m c k x) l:=by
 obtain⟨E,F,G⟩:=h;refine⟨by unfold Qh Qa;rw[Q0o,E],F.put _ C,λi H J=> ?_⟩;obtain⟨L,M,O,B⟩:=G i H J;refine⟨L,M,O, ?_⟩;unfold Qh Qa;rw[Q2e];split
 ·rename_i e
  show(((aW (Q7 (mC m) c)).set _ _).length:Nat)=_;have:Q7 (mC m) c=Q7 (mC m) (at_.getD i 0):=by unfold Q7;rw[e.1]
  rw[List.length_set,this,B]
 ·exact B
theorem Yt.var{n:Qr2}{at_:List Int}{K:Nat}{m:Qqp}{e:Nat}{l:List Nat}(h:Yt n at_ K m (e::l)):Yt n at_ K (Qv m) l/\mF m=(e:Int)/\e<K:=by
 obtain⟨E,F,G⟩:=h;obtain⟨f1,f2,f3⟩:=F.take Z5;refine⟨⟨by unfold Qv;rw[Qd,E],f1,λi H J=> ?_⟩,f2,by omega⟩;obtain⟨L,M,B,O⟩:=G i H J;refine⟨L,M,λP=>B (Aa _ P), ?_⟩;unfold Qv;rw[Y8,if_neg]
 ·exact O
 ·rintro⟨C,-⟩
  rw[f2]at C;exact B (by rw[<-C];simp)
theorem Qca(n:Qr2)(l:Int)(m:Qqp)(j:Nat):(Qqi n l m j).length=j+1:=by simp[Qqi]
theorem Qmb(n:Qr2)(l:Int)(m:Qqp)(j:Nat):Qqi n l m (j+1)=Qqi n l m j++ [mF (Q00 n l m j)]:=by simp[Qqi,List.range_succ]
theorem Qkk(n:Qr2)(l:Int)(m:Qqp){j i:Nat}(h:i<j):(Qqi n l m j).getD (i+1) 0=mF (Q00 n l m i):=by
 unfold Qqi;rw[List.getD_cons_succ,Ab];simp[h]
theorem Qcw(x:Qb)(l:Int):(aW (Q3e x l)).length=(aW x).length-1:=by simp[Q3e,aW]
theorem Qc1{n:Qr2}{by_:Int}{m:Qqp}{l:List Nat}(h:Yf m l):∀j,j<=l.length->Yf (Q00 n by_ m j) (l.drop j)/\(mC (Q00 n by_ m j)).length=(mC m).length/\
  ∀i,i<j->mF (Q00 n by_ m i)=((l.getD i 0:Nat):Int)/\l.getD i 0<(mC m).length/\l.getD i 0∉l.drop j/\(aW (Q7 (mC (Q00 n by_ m j)) (l.getD i 0:Nat))).length=(aW (Qn n (i+1))).length-1
 |0,_=>⟨h,rfl,λi E=>absurd E (Da _)⟩
 |j+1,hj=>by
  obtain⟨B,J,K⟩:=Qc1 h j (by omega);have F:l.drop j=l.getD j 0::l.drop (j+1):=by rw[List.drop_eq_getElem_cons (by omega),Ab,Ad (by omega)];rfl
  have G:=Jw.nodup B;rw[F]at B G;obtain⟨f1,f2,f3⟩:=B.take (Q3e (Qn n (j+1)) by_);refine⟨f1,by show(mC (Qj _ _)).length=_;rw[Qd,J],λi E=> ?_⟩;show _/\_/\_/\(aW (Q7 (mC (Qj (Q00 n by_ m j) (Q3e (Qn n (j+1)) by_))) _)).length=_;rw[Y8,f2];by_cases e:i=j
  ·subst e
   refine⟨f2,by omega,(Ar.1 G).1, ?_⟩;rw[if_pos ⟨rfl,by rw[Int.toNat_natCast];omega⟩];exact Qcw _ _
  ·obtain⟨L,M,C,O⟩:=K i (by omega)
   rw[F]at C;refine⟨L,M,λP=>C (Aa _ P), ?_⟩;rw[if_neg]
   ·exact O
   ·rintro⟨H,-⟩
    simp only[Int.toNat_natCast]at H;exact C (by rw[H];exact Ae)
theorem Q9b{n:Qr2}{by_:Int}{m:Qqp}{l:List Nat}(h:Yf m l)(B:n.length-1<=l.length):Yt n (Qqi n by_ m (n.length-1)) (mC m).length (Q00 n by_ m (n.length-1)) (l.drop (n.length-1)):=by
 obtain⟨C,E,F⟩:=Qc1 (n:=n) (by_:=by_) h (n.length-1) B;refine⟨E,C,λi K L=> ?_⟩;obtain⟨k,rfl⟩:∃k,i=k+1:=⟨i-1,by omega⟩;obtain⟨G,M,H,J⟩:=F k (by omega);rw[Qkk n by_ m (by omega),G];exact⟨by omega,by omega,by simpa using H,J⟩
theorem Qiw{n:Qr2}(h:Ys n=Bn){w:Qqt}(K:w∈Yk n):(0<=w.1.1/\w.1.1<n.length)/\(0<=w.1.2/\w.1.2<(aW (Q7 n w.1.1)).length)/\(1<=w.2.1/\w.2.1<n.length)/\(0<=w.2.2/\w.2.2<(aW (Q7 n w.2.1)).length)/\(w.1.1=0->w.1.2=0):=by
 have U:=h;unfold Ys at h;simp only[Bl]at h;unfold Yk at K;obtain⟨p,B,rfl⟩:=Eh.1 K;obtain⟨B,L⟩:=Dn.1 B;have E:=Bf.1 h.2 p B;obtain⟨i,M,B⟩:=Dk.1 B;obtain⟨k,O,rfl⟩:=Eh.1 B;have M:=Cy.1 M;have O:=Cy.1 O;unfold Q0c Q0l at E;simp only[Bl]at E;obtain⟨-,⟨q1,F⟩,-⟩:=E;have q1:=Ql.1 q1;have F:=Ql.1 F;have V:(aW (Qn n 0)).length<=1:=by
  have G:=h.1;unfold Jm at G;simp only[Bl]at G;have H:=Bf.1 G.2 0 (Cy.2 (by omega));simp only[Bl]at H;have S:aK (Qn n 0)=1:=by simpa using H.2
  have C:=H.1;unfold Yc at C;rw[S]at C;simp only[Bl,beq_iff_eq]at C;have:=C.1.1.2;simp[Q1l,Q0b]at this;omega
 have P:((i:Int)<(Qt n (i,k)).1)\/((i:Int)=(Qt n (i,k)).1/\(k:Int)<(Qt n (i,k)).2):=by unfold Q03 at L;simpa using L
 have T:Q7 n ((i:Nat):Int)=Qn n i:=by simp[Q7]
 simp only[T];refine⟨by omega,by omega, ?_,by omega,λe=> ?_⟩
 ·refine⟨?_,by omega⟩
  rcases P with P|⟨e1,e2⟩
  ·omega
  ·by_cases J:i=0
   ·subst J
    have:Q7 n (Qt n (((0:Nat):Int),(k:Int))).1=Qn n 0:=by rw[<-e1];rfl
    rw[this]at F;omega
   ·omega
 ·have J:i=0:=by omega
  subst J;omega
theorem Q8z{x:Qb}(h:Yc x=Bn)(B:Y1 (aK x)=Bn):0<=aL x/\aL x<=8:=by
 unfold Yc Zy at h;simp only[Bl,B,if_true]at h;exact Ql.1 h.1.2
theorem Qi5{x:Qb}(h:Yc x=Bn):aK x≠0:=by
 intro e;unfold Yc at h;rw[e]at h;simp only[Bl,beq_iff_eq,decide_eq_true_eq]at h;have:=h.1.1.1;simp[Q1l,Q0b]at this
theorem Q31{x:Qb}(h:Yc x=Bn):1<=(aW x).length:=by
 unfold Yc at h;simp only[Bl,beq_iff_eq,decide_eq_true_eq]at h;omega
theorem Q9d{n:Qr2}(h:Ys n=Bn){p:Wd}(E:p∈Yd n):(0<=p.1/\p.1<n.length)/\(0<=p.2/\p.2<n.length):=by
 have F:=(Y5 h).2.1;unfold Ys at h;simp only[Bl]at h;unfold Yd at E;obtain⟨i,B,rfl⟩:=Eh.1 E;have B:=Cy.1 (Dn.1 B).1;have H:=Q31 (F i B);have G:(((i:Nat):Int),((0:Nat):Int))∈Qs n:=Dk.2 ⟨i,Cy.2 B,Eh.2 ⟨0,Cy.2 (by omega),rfl⟩⟩;have C:=Bf.1 h.2 _ G;unfold Q0c Q0l at C;simp only[Bl]at C;obtain⟨-,⟨q1,J⟩,-⟩:=C;have q1:=Ql.1 q1;have q1:0<=(Qt n ((i:Int),0)).1/\(Qt n ((i:Int),0)).1<=(n.length:Int)-1:=q1;refine⟨⟨by simp,by simpa using B⟩, ?_⟩;simp only;omega
theorem Qik{w:Bh}{b:Nat}{T:TypeId}{B G C E F:Bk}(h:w.heap[b]?=R (.cells #[B,G,C,E,F] T (0,0)))(v:Bk):
  (w.setCell ⟨b,1,N⟩ v).heap[b]?=R (.cells #[B,v,C,E,F] T (0,0)):=by
 have:=V3 [v] 1 w _ h;simp only[Qrf,Cd,Bj]at this;rw[this];simp[Q1n]
theorem Qas{w:Bh}{b:Nat}{T:TypeId}{B C E F G:Bk}(h:w.heap[b]?=R (.cells #[B,C,E,F,G] T (0,0)))(v:Bk):
  (w.setCell ⟨b,4,N⟩ v).heap[b]?=R (.cells #[B,C,E,F,v] T (0,0)):=by
 have:=V3 [v] 4 w _ h;simp only[Qrf,Cd,Bj]at this;rw[this];simp[Q1n]
end Go.Proofs.YthbpkpnioaniiaaGreat
