import Derived.Test.YthbpkpnioaniiaaGreatP08
set_option maxHeartbeats 40000000
set_option maxRecDepth 100000
set_option linter.all false
namespace Go.Proofs.YthbpkpnioaniiaaGreat
open Go.RowKit Go.Proofs.Tryz
open Go.Value renaming int->I,slice->A
open Go.IntKind renaming i64->Z
open Option renaming none->N,some->R
open And renaming intro->Cg
open Go renaming World->Bh,Calls->Bq,maxLen->Bp,heap_alloc_new->Bg
open List renaming append_nil->Co,length_append->Bo,length_singleton->Dw
theorem Q49.agent{w:Bh}{b o:Nat}{k l v:Int}{d:List Int}{ws:List Wd}{G:List Nat}(h:Q49 Q3 w b o (k,l,v,d,ws) G):
  ∃(B:Option Addr) (C:Nat) (E:Option Addr) (F:Nat),(w.cell? ⟨b,o,N⟩=R (I Z k)/\w.cell? ⟨b,o+1,N⟩=R (I Z l)/\w.cell? ⟨b,o+2,N⟩=R (I Z v)/\w.cell? ⟨b,o+3,N⟩=R (A B d.length C)/\w.cell? ⟨b,o+4,N⟩=R (A E ws.length F))/\
   (Qqm k/\Qqm l/\Qqm v)/\∃H J,G=H++J/\Ow (.slice .int) w [A B d.length C] d H/\Ow (.slice Q4) w [A E ws.length F] ws J:=by
 obtain⟨us,U,K,L,V⟩:=h;obtain⟨B,C,E,F,H,J,rfl,rfl,M,O,P,S,T⟩:=L.agent;exact⟨B,C,E,F,Q4b K,⟨P,S,T⟩,H,J,rfl,M,O⟩
theorem Qkc{X:Nat->Prop}{w W:Bh}(B:Q1 X w W){b:Nat}(C:b<w.heap.size)(hX:¬X b){q1 E F G:Nat}{v1 H J K:Value}(L:w.cell? ⟨b,q1,N⟩=R v1)(M:w.cell? ⟨b,E,N⟩=R H)(O:w.cell? ⟨b,F,N⟩=R J)(P:w.cell? ⟨b,G,N⟩=R K):
  W.cell? ⟨b,q1,N⟩=R v1/\W.cell? ⟨b,E,N⟩=R H/\W.cell? ⟨b,F,N⟩=R J/\W.cell? ⟨b,G,N⟩=R K:=
 ⟨(B.cell C hX _).trans L,(B.cell C hX _).trans M,(B.cell C hX _).trans O,(B.cell C hX _).trans P⟩
theorem Qpd(w:Bh)(pb po:Nat)(m:Qqp)(S:MS)(h:Z8 w pb po m S)(xb xo Y yo:Nat)(kx K vx:Int)(dx:List Int)(L x1:Wd)(Gx:List Nat)(k r v:Int)(d:List Int)(ws:List Wd)(Gy:List Nat)
  (hx:Q49 Q3 w xb xo (kx,K,vx,dx,[L,x1]) Gx) (hy:Q49 Q3 w Y yo (k,r,v,d,ws) Gy) (ax:Q8i (xb::Gx) pb S) (ay:Q8i (Y::Gy) pb S) (E C:Nat) (l:List Nat) (hl:Yf m (E::C::l)) (E6:3 * ws.length<=l.length) (hd:d.length<=1000000) (hw:ws.length<=1000000):
  Bq prog 191 #[.pointer (R ⟨pb,po,N⟩),.pointer (R ⟨xb,xo,N⟩),.pointer (R ⟨Y,yo,N⟩)] w λe w'=>∃v' S' l',e=.returned v'/\Qk w S pb po w' (Qd0 m (kx,K,vx,dx,[L,x1]) (k,r,v,d,ws)).1 S' l'/\Y9 w S' w' v' (Qd0 m (kx,K,vx,dx,[L,x1]) (k,r,v,d,ws)).2:=by
 have BJ:=qh (Qk.start h hl);have HX:=qh hx;have HY:=qh hy;have FR:=qh ax;have FT:=qh ay;obtain⟨pd,cd,pw,cw,⟨y0,y1,y2,y3,y4⟩,iy,Gd,Gw,C6,C7,C8⟩:=hy.agent;have AS:=qh iy;have CV:=qh C7;have HD:=qh hd;have AK:=hy.lt Y Ae;have AT:D (¬(Y=pb\/Y∈S.all)):=qh (λe=>ay Y Ae (e.elim (λe=>e▸Ae) (Aa _)));have CW:=h.lt;have BK:=qh CW;have E7:D (3 * ws.length<=l.length+3 * 0):=qh (by omega);have BL:=Jw.nodup hl;have CX:D (E∉l/\C∉l/\E≠C):=qh (⟨λe=>(Ar.1 BL).1 (Aa _ e),(Ar.1 (Ar.1 BL).2).1,λe=>(Ar.1 BL).1 (e▸Ae)⟩);have A2:E<(mC m).length/\C<(mC m).length:=by have U:=(Yf.take hl (0,0,0,[],[]));have n:=(Yf.take U.1 (0,0,0,[],[]));rw[Qd]at n;exact⟨U.2.2,n.2.2⟩
 have CY:=qh A2;have E8:D (Qqm (E:Int)/\Qqm (C:Int)):=qh (by have G:=h.cells.bound;unfold Bp at G;unfold Qqm;omega);have E9:D ((([(L,((1:Int),(E:Int))),(x1,((1:Int),(C:Int)))]:List Qqt)).length<=2+0):=qh (by simp);have CZ:=qh C8;have EA:D (∀b∈Gw,b<w.heap.size/\¬(b=pb\/b∈S.all)):=qh (λb G=>⟨C8.lt b G,λe=>ay b (Aa _ (by rw[C6];exact Af _ G)) (e.elim (λe=>e▸Ae) (Aa _))⟩);clear BL A2 E6;have EB:D (∀b∈Gd,b<w.heap.size/\¬(b=pb\/b∈S.all)):=qh (λb G=>⟨C7.lt b G,λe=>ay b (Aa _ (by rw[C6];exact Ag _ G)) (e.elim (λe=>e▸Ae) (Aa _))⟩);obtain⟨_,_,FU,cx,⟨-,xl,-,-,x4⟩,D0,FV,EC,D1,-,AY⟩:=hx.agent;obtain⟨bx,ox,BM,C9⟩:=Rd.elem AY.rd 0 (by simp);obtain⟨FW,FX,CA,CB⟩:=Rd.elem AY.rd 1 (by simp);rw[BM]at CA;simp only[Option.some.injEq,Addr.mk.injEq,and_true]at CA;obtain⟨rfl,rfl⟩:=CA;have A7:D (bx<w.heap.size/\¬(bx=pb\/bx∈S.all)):=qh (by have T:bx∈EC:=AY.block0 (by rw[BM]) (by simp);exact⟨AY.lt _ T,λe=>ax bx (Aa _ (by rw[D1];exact Af _ T)) (e.elim (λe=>e▸Ae) (Aa _))⟩);have BN:D (xb<w.heap.size/\¬(xb=pb\/xb∈S.all)):=qh (⟨hx.lt xb Ae,λe=>ax xb Ae (e.elim (λe=>e▸Ae) (Aa _))⟩);have D2:D ((Qqm L.1/\Qqm L.2)/\(Qqm x1.1/\Qqm x1.2)):=qh (⟨(At.word (t:=L.1) (a:=L.2) C9).2.2,(At.word (t:=x1.1) (a:=x1.2) CB).2.2⟩);have D3:D (∀W,Q1 (λc=>c=pb\/c∈S.all) w W->W.cell? ⟨xb,xo+4,N⟩=R (A (R ⟨bx,ox,N⟩) 2 cx)/\W.cell? ⟨bx,ox,N⟩=R (I Z L.1)/\W.cell? ⟨bx,ox+1,N⟩=R (I Z L.2)/\W.cell? ⟨bx,ox+2,N⟩=R (I Z x1.1)/\W.cell? ⟨bx,ox+3,N⟩=R (I Z x1.2)):=qh (λW P=>by have e0:=At.word (t:=L.1) (a:=L.2) C9;have U:=At.word (t:=x1.1) (a:=x1.2) CB;simp only[Ty.sz,Nat.reduceAdd,Nat.zero_mul,Nat.one_mul,Nat.add_zero,Nat.add_assoc]at e0 U;rw[BM]at x4;exact⟨(P.cell BN.o.1 BN.o.2 _).trans x4,(P.cell A7.o.1 A7.o.2 _).trans e0.1,(P.cell A7.o.1 A7.o.2 _).trans e0.2.1,(P.cell A7.o.1 A7.o.2 _).trans U.1,(P.cell A7.o.1 A7.o.2 _).trans U.2.1⟩);clear hx hy ax ay iy C7 C8 C6 hd h CW AY C9 CB BM D1 x4;have ED:=qh D0.2.1;have AL:D (pb<w.heap.size/\S.cb<w.heap.size):=qh (⟨BK.o pb Ae,BK.o S.cb (Aa _ Ae)⟩);clear D0;go_enter func191,ntmps191;go_wp2_with fail
 go_region_held3(λw'=>w'.cell? ⟨Y,yo,N⟩=R (I Z k)/\w'.cell? ⟨Y,yo+1,N⟩=R (I Z r)/\w'.cell? ⟨Y,yo+2,N⟩=R (I Z v)/\w'.cell? ⟨Y,yo+3,N⟩=R (A pd d.length cd))
  (first|with_reducible exact Qkc A8.o.fr AK AT.o y0 y1 y2 y3|with_reducible exact Q6z BO.o y0 y1 y2 y3|(refine Q6z (w:=w) ?_ y0 y1 y2 y3;go_grown))
  (first|((go_at_call 54;refine(Q2o _ _ d (CV.o.rd.kept (Am (by go_grown))) (by have:=HD.o;omega)).mono ?_;rintro e w1 ⟨v1,rfl,ho,G⟩;obtain⟨p1,EE,rfl,-,-⟩:=ho.form;have BO:D (Below w.heap.size w w1):=qh (Q0 (by go_grown) G);have EF:=BO.o.size;have CC:=ho.ow rfl;clear ho G;obtain⟨G1,AZ,B0,B1⟩:=CC;have B2:=qh (Cg AZ (Cg B0 B1));clear AZ B0 B1))|((go_at_call 192;refine(Q4v (BJ.o.below BO.o) k r v p1 N d.length EE 0 0 (k,r,v,d,[]) (G1++ []) (Ow.mkAgent AS.o.1 AS.o.2.1 AS.o.2.2 B2.o.1 (Ow.nil _)) (by rw[Co];exact B2.o.2.1) (λb G T=>by rw[Co]at G;have f:=(B2.o.2.2 b G).1;have h2:=BK.o b T;simp at f;omega) (λb G=>by rw[Co]at G;have f:=(B2.o.2.2 b G).1;simp at f;omega)).mono ?_;rintro e w2 ⟨rfl,hs,P⟩;have A8:=qh hs;have A1:=qh P;clear hs P)))
 go_wp2_with fail
 obtain⟨m1,CD⟩:∃m1,m1=Qj m (k,r,v,d,[]):=⟨_,rfl⟩;have AM:D (Qk w S pb po w2 m1 (S.put E (G1++ [])) (C::l)):=qh (by rw[CD];exact A8.o);have AU:=qh CD;obtain⟨z0,z1,z2,z3⟩:=Qkc AM.o.fr AK AT.o y0 y1 y2 y3;have D4:=qh AM.o.mem.lt;have D5:=qh (CV.o.frame AM.o.fr EB.o);have FY:Y<w2.heap.size:=Ap AK AM.o.fr.size;have FZ:=AM.o.fr.size;clear CD A8 A1 BO EF B2 BK;generalize S.put E (G1++ [])=S1 at *
 go_region_held3(λw'=>w'.cell? ⟨Y,yo,N⟩=R (I Z k)/\w'.cell? ⟨Y,yo+1,N⟩=R (I Z r)/\w'.cell? ⟨Y,yo+2,N⟩=R (I Z v)/\w'.cell? ⟨Y,yo+3,N⟩=R (A pd d.length cd))
  (first|with_reducible exact Qkc CE.o.fr AK AT.o y0 y1 y2 y3|with_reducible exact Q6z BP.o z0 z1 z2 z3|(refine Q6z (w:=w2) ?_ z0 z1 z2 z3;go_grown))
  (first|((go_at_call 54;refine(Q2o _ _ d (D5.o.rd.kept (Am (by go_grown))) (by have:=HD.o;omega)).mono ?_;rintro e w3 ⟨v1,rfl,ho,G⟩;obtain⟨p3,EG,rfl,-,-⟩:=ho.form;have BP:D (Below w2.heap.size w2 w3):=qh (Q0 (by go_grown) G);have EH:=BP.o.size;have CC:=ho.ow rfl;clear ho G;obtain⟨G3,AZ,B0,B1⟩:=CC;have B3:=qh (Cg AZ (Cg B0 B1));clear AZ B0 B1))|((go_at_call 192;refine(Q4v (AM.o.below BP.o) k r v p3 N d.length EG 0 0 (k,r,v,d,[]) (G3++ []) (Ow.mkAgent AS.o.1 AS.o.2.1 AS.o.2.2 B3.o.1 (Ow.nil _)) (by rw[Co];exact B3.o.2.1) (λb G T=>by rw[Co]at G;have f:=(B3.o.2.2 b G).1;have h2:=D4.o b T;simp at f;omega) (λb G=>by rw[Co]at G;have f:=(B3.o.2.2 b G).1;simp at f;omega)).mono ?_;rintro e w4 ⟨rfl,hs,P⟩;have CE:=qh hs;have EI:=qh P;clear hs P)))
 go_wp2_with fail
 obtain⟨g,CF⟩:∃g,g=Qj m1 (k,r,v,d,[]):=⟨_,rfl⟩;have B4:D (Qk w S pb po w4 g (S1.put C (G3++ [])) l):=qh (by rw[CF];exact CE.o);have BQ:=qh CF;clear CF CE EI BP EH B3 D4 AM D5 z0 z1 z2 z3;generalize S1.put C (G3++ [])=S2 at *
 obtain⟨g0,g1,g2,g3,g4⟩:=D3.o _ B4.o.fr;have D6:=Ac w4 _ g0;have D7:=Ac w4 _ g1;simp only at D6 D7
 go_region_held3(λw'=>w'.cell? ⟨xb,xo+4,N⟩=R (A (R ⟨bx,ox,N⟩) 2 cx)/\w'.cell? ⟨bx,ox,N⟩=R (I Z L.1)/\w'.cell? ⟨bx,ox+1,N⟩=R (I Z L.2)/\w'.cell? ⟨bx,ox+2,N⟩=R (I Z x1.1)/\w'.cell? ⟨bx,ox+3,N⟩=R (I Z x1.2))
  (first|with_reducible exact Qar (A9.o) g0 g1 g2 g3 g4|with_reducible exact Qar (CG.o) g0 g1 g2 g3 g4|with_reducible exact Qar (A9.o.alloc A9.o.size _) g0 g1 g2 g3 g4|(refine Qar (w:=w4) ?_ g0 g1 g2 g3 g4;go_grown))
  (first|((go_at_call 189;refine(Vj _ (E:Int)).mono ?_;rintro e w5 ⟨rfl,G⟩;have CG:D (Below w4.heap.size w4 w5):=qh (Q0 (by go_grown) G);clear G))|((go_at_call 189;refine(Vj _ (C:Int)).mono ?_;rintro e w6 ⟨rfl,G⟩;have A9:D (Below w4.heap.size w4 w6):=qh (Q0 CG.o G);clear G)))
 go_wp2_with fail
 have EJ:D (Below w4.heap.size w4 (w6.alloc (.cells #[I Z L.1,I Z L.2,I Z 1,I Z E,I Z x1.1,I Z x1.2,I Z 1,I Z C] 120))):=qh (A9.o.alloc A9.o.size _)
 have D8:=qh (show Y9 w S2 (w6.alloc (.cells #[I Z L.1,I Z L.2,I Z 1,I Z E,I Z x1.1,I Z x1.2,I Z 1,I Z C] 120)) (A (R ⟨w6.heap.size,0,N⟩) 2 2) [(L,((1:Int),(E:Int))),(x1,((1:Int),(C:Int)))]from
  Y9.ofOwn (B:=w6.heap.size) (Qqe.of_block (t:=Qu) (xs:=[(L,((1:Int),(E:Int))),(x1,((1:Int),(C:Int)))]) (Bg w6 _) (Aj _) rfl rfl (by
   have f:=E8.o;intro y hy;simp only[List.mem_cons,List.not_mem_nil,or_false]at hy;rcases hy with rfl|rfl
   ·exact⟨D2.o.1,⟨show Qqm 1 by unfold Qqm;omega,f.1⟩⟩
   ·exact⟨D2.o.2,⟨show Qqm 1 by unfold Qqm;omega,f.2⟩⟩) (by simp[Bp])) (Au B4.o.fr.size A9.o.size) (λb T=>Ap (B4.o.mem.lt b (Aa _ T)) A9.o.size))
 have D9:=qh (B4.o.below EJ.o);have EK:D ((mC g).length=(mC m).length):=qh (by rw[BQ.o,Qd,AU.o,Qd]);have EL:D ((aW (Q7 (mC g) (E:Int))).length=0/\(aW (Q7 (mC g) (C:Int))).length=0):=qh (by
  have U:=(BJ.o.first (k,r,v,d,[]));have n:=U.2.2;rw[<-AU.o]at n;have e3:=(Yf.take n (k,r,v,d,[]));rw[BQ.o,Y8,Y8,e3.2.1,AU.o,Y8,Y8,U.1,Qd];have:=CY.o;constructor
  ·rw[if_neg (by have:=CX.o.2.2;simp;omega),if_pos (by simp;omega)];rfl
  ·rw[if_pos (by simp;omega)];rfl)
 have DA:D (Qd0 m (kx,K,vx,dx,[L,x1]) (k,r,v,d,ws)=ws.foldl (Yr K E C) (g,[(L,((1:Int),(E:Int))),(x1,((1:Int),(C:Int)))])):=qh (by have U:=(BJ.o.first (k,r,v,d,[])).1;have n:=(BJ.o.first (k,r,v,d,[])).2.2;rw[<-AU.o]at n;have e3:=(Yf.take n (k,r,v,d,[])).2.1;rw[BQ.o];simp only[Qd0,aK,aL,aV,aD,aW];rw[U,<-AU.o,e3];rfl);clear g0 g1 g2 g3 g4 D6 D7 CG A9 AU BQ B4 D3;generalize w6.alloc (.cells #[I Z L.1,I Z L.2,I Z 1,I Z E,I Z x1.1,I Z x1.2,I Z 1,I Z C] 120)=W7 at *
 generalize ([(L,((1:Int),(E:Int))),(x1,((1:Int),(C:Int)))]:List Qqt)=out0 at *
 go_loopw [9,10] (λu i wr=>∃(j:Nat) (S':MS) (l':List Nat),j<=ws.length/\i=I Z j/\D (Qk w S pb po wr ((ws.take j).foldl (Yr K E C) (g,out0)).1 S' l')/\D (Y9 w S' wr u ((ws.take j).foldl (Yr K E C) (g,out0)).2)/\
  D (3 * ws.length<=l'.length+3 * j)/\D (E∉l'/\C∉l'/\E≠C)/\D (E<(mC ((ws.take j).foldl (Yr K E C) (g,out0)).1).length/\C<(mC ((ws.take j).foldl (Yr K E C) (g,out0)).1).length)/\D (((ws.take j).foldl (Yr K E C) (g,out0)).2.length<=2+j)/\D ((aW (Q7 (mC ((ws.take j).foldl (Yr K E C) (g,out0)).1) (E:Int))).length=j/\(aW (Q7 (mC ((ws.take j).foldl (Yr K E C) (g,out0)).1) (C:Int))).length=j)) (λ_ i _=>ws.length-(intOf i).toNat)
 case atStart=>exact⟨0,S2,l,Ak _,rfl,D9.o,D8.o,E7.o,CX.o,(by rw[List.take_zero];show E<(mC g).length/\C<(mC g).length;rw[EK.o];exact CY.o),E9.o,EL.o⟩
 case round=>
  obtain⟨j,S',l',hj,rfl,p,HO,DB,HC,AA,DC,CH⟩:=hrel;clear D9 D8;by_cases BR:j<ws.length
  ·have BS:3<=l'.length:=by have:=DB.o;omega
   obtain⟨M,J,H,l3,rfl⟩:∃M J H l3,l'=M::J::H::l3:=by
    match l',BS with
    |M::J::H::l3,_=>exact⟨M,J,H,l3,rfl⟩
   have B5:D ((ws.take (j+1)).foldl (Yr K E C) (g,out0)=Yr K E C ((ws.take j).foldl (Yr K E C) (g,out0)) ws[j]):=qh (by rw[An BR,List.foldl_append];rfl);generalize (ws.take j).foldl (Yr K E C) (g,out0)=Fj at *
   obtain⟨mj,oj⟩:=Fj;have p:D (Qk w S pb po wr mj S' (M::J::H::l3)):=qh (p.o);obtain⟨by_,oy,DD,hE⟩:=Rd.elem CZ.o.rd j BR;have AV:=qh (EA.o by_ (CZ.o.block0 DD (by intro e;rw[e]at BR;simp at BR)));generalize hwd:ws[j]=wd at *
   obtain⟨wt,wa⟩:=wd;obtain⟨f0,f1,DE,DF⟩:=At.word hE;simp only[Ty.sz,Nat.reduceAdd]at f0 f1;have BT:=qh (Cg DE DF);clear hE hwd BS DE DF;subst DD;have G0:=p.o.fr.size;have AN:=(p.o.cell AK (λe=>AT.o ((Aq.1 e).imp id id)) (yo+4)).trans y4;have EM:=(p.o.cell BN.o.1 (λe=>BN.o.2 ((Aq.1 e).imp id id)) (xo+1)).trans xl;have G2:(0:Int)<=j:=by omega
   have G4:(j:Int)<ws.length:=by omega
   obtain⟨pu,cu,rfl⟩:=HO.o.form;go_wp2_with(first|((go_at_call 192;refine(Q4v p.o 4 K 0 N N 0 0 0 0 (4,K,0,[],[]) [] (Ow.mkAgent (by unfold Qqm;omega) ED.o (by unfold Qqm;omega) (Ow.nil _) (Ow.nil _)) (by simp) (by simp) (by simp)).mono ?_;rintro e w8 ⟨rfl,hs,P⟩;have DG:=qh hs;have DH:=qh P;have EN:=P.size;clear hs P))|((go_at_call 225;refine(Q9s DG.o).mono ?_;rintro e V ⟨rfl,hs,P⟩;have DI:=qh hs;have DJ:=qh P;have EO:=P.size;clear hs P))|((go_at_call 225;refine(Q9s (DI.o.below (show Below V.heap.size V (V.alloc (.cells #[I Z 2,I Z J] 40))by go_grown))).mono ?_;rintro e O ⟨rfl,hs,P⟩;have DK:=qh hs;have CI:=qh P;have DL:=P.size;clear hs P)))
   have HU:D ((O.alloc (.cells #[I Z 2,I Z H] 40)).heap[V.heap.size]?=R (.cells #[I Z 2,I Z J] 40 (0,0))):=qh (Qw ((CI.o.block V.heap.size (by simp) (by have:=AL.o;omega)).trans (Bg V _)));have HV:D ((O.alloc (.cells #[I Z 2,I Z H] 40)).heap[O.heap.size]?=R (.cells #[I Z 2,I Z H] 40 (0,0))):=qh (Bg O _);have CJ:D (Below O.heap.size O (O.alloc (.cells #[I Z 2,I Z H] 40))):=qh (by go_grown);have EP:D (∀b∈(((S'.put M []).put J []).put H []).all,b∈S'.all):=qh (λb T=>by
    rcases Zf T with h|h
    ·simp at h
    ·rcases Zf h with h|h
     ·simp at h
     ·rcases Zf h with h|h
      ·simp at h
      ·exact h)
   have DM:D (Y9 w (((S'.put M []).put J []).put H []) _ _ _):=qh (HO.o.step (X:=λc=>c=pb\/c=S.cb) (DH.o.trans (DJ.o.trans (((Q1.refl _ V).alloc (.cells #[I Z 2,I Z J] 40)).trans (CI.o.trans (Ay CJ.o))))) (λc hc=> .inl (by have:=AL.o;omega)) (λb G=> .inl (EP.o b G)));have A3:=qh (DK.o.below CJ.o);have EQ:=qh (Jw.nodup p.o.free);have BU:D (∀b∈(((S'.put M []).put J []).put H []).all,b<V.heap.size):=qh (λb T=>by
    have f:b∈S'.all:=by
     rcases Zf T with h|h
     ·simp at h
     ·rcases Zf h with h|h
      ·simp at h
      ·rcases Zf h with h|h
       ·simp at h
       ·exact h
    have:=p.o.mem.lt b (Aa _ f);omega)
   have BV:D ((mC (Qv (Qv (Qj mj (4,K,0,[],[]))))).length=(mC mj).length):=qh (by unfold Qv;rw[Qd,Qd,Qd]);have DN:=qh (p.o.first (4,K,0,[],[])).2.1;have ER:O.heap.size<(O.alloc (.cells #[I Z 2,I Z H] 40)).heap.size:=by simp
   have ES:w.heap.size<=V.heap.size:=by omega
   have G5:V.heap.size<O.heap.size:=by simp at DL;omega
   obtain⟨m3,CK⟩:∃m3,m3=Qv (Qv (Qj mj (4,K,0,[],[]))):=⟨_,rfl⟩;rw[<-CK]at A3 BV;have CL:=qh CK;clear CK DK CI DI DJ DG DH HO EN EO DL AN EM CJ;generalize ((S'.put M []).put J []).put H []=S3 at *
   generalize O.alloc (.cells #[I Z 2,I Z H] 40)=W11 at *
   have BW:D (Qqm (J:Int)/\Qqm (H:Int)):=qh (by have G:=p.o.mem.cells.bound;have U:=p.o.first Z5;have n:=Yf.take U.2.2 Z5;have e3:=Yf.take n.1 Z5;rw[Qd]at n e3;rw[Qd]at e3;unfold Bp at G;unfold Qqm;omega);go_cut [100] (λ_ wx=>∃S4,D (Qk w S pb po wx (Qa m3 (M:Int) [((2:Int),(J:Int)),(2,(H:Int))]) S4 l3)/\D (Y9 w S4 wx (A pu oj.length cu) oj)/\D (wx.heap[V.heap.size]?=R (.cells #[I Z 2,I Z J] 40 (0,0)))/\D (wx.heap[O.heap.size]?=R (.cells #[I Z 2,I Z H] 40 (0,0)))/\D (V.heap.size∉S4.all/\O.heap.size∉S4.all)/\W11.heap.size<=wx.heap.size)
   case first=>
    obtain⟨pf,cf,G6,G7,G8,AO,AP,AB,AC⟩:=A3.o.focusN (i:=M) (by rw[BV.o];exact DN.o) (λe=>(Ar.1 EQ.o).1 (Aa _ (Aa _ e)));have B6:=qh AC;have AD:=qh AB;clear AO AP AB AC;obtain⟨_,_,c0,-,-,-,-,-,-,-,-⟩:=A3.o.mem.head;have AE:=A3.o.mem.cells.bound;unfold Bp at AE;obtain⟨DO,DP⟩:=AE;obtain⟨B7,DQ⟩:=A3.o.mem.ne;have BX:=λq=>A3.o.mem.cells.blk.free q;obtain⟨⟨u0,u1⟩,-⟩:=Za HU.o;obtain⟨⟨v0,v1⟩,-⟩:=Za HV.o;have DR:=A3.o.mem.blk.lt;have A2:=A3.o.mem.cells.blk.lt;have AF:=A3.o.cb;have DS:S3.cb<w.heap.size:=by rw[AF];exact AL.o.2
    have G9:pb<w.heap.size:=AL.o.1;clear AF;have A5:V.heap.size≠S3.cb:=by omega
    have CM:O.heap.size≠S3.cb:=by omega
    have GA:(0:Int)<=M:=by omega
    have GB:(M:Int)<(mC m3).length:=by have:=BV.o;have:=DN.o;omega
    have ET:=qh (Q4w (X:=λc=>c=S3.cb) (((Ze W11 S3.cb (S3.o+M * 5+4) (A (R ⟨W11.heap.size,0,N⟩) 2 2)).alloc (.cells #[I Z 2,I Z J,I Z 2,I Z H] 40)).drew) c0 u0 u1 v0 v1 B7 A5 A5 CM CM)
    go_region_held3(λw'=>w'.cell? ⟨pb,po,N⟩=R (A (R ⟨S3.cb,S3.o,N⟩) (mC m3).length S3.cap)/\w'.cell? ⟨V.heap.size,0,N⟩=R (I Z 2)/\w'.cell? ⟨V.heap.size,1,N⟩=R (I Z J)/\w'.cell? ⟨O.heap.size,0,N⟩=R (I Z 2)/\w'.cell? ⟨O.heap.size,1,N⟩=R (I Z H))
     (first|exact ET.o|(refine Qar (w:=W11) ?_ c0 u0 u1 v0 v1;go_grown))
     (first|fail)
    go_wp2_with fail
    go_meet;have CN:=B6.o (W11.alloc (.cells #[I Z 2,I Z J,I Z 2,I Z H] 40)) (R ⟨W11.heap.size,0,N⟩) 2 2 [((2:Int),(J:Int)),(2,(H:Int))] [W11.heap.size] ((Q1.refl _ _).alloc _) (Q8w (Bg W11 _) (by unfold Qqm;omega) BW.o.1 (by unfold Qqm;omega) BW.o.2) rfl (by simp) (λb G=> .inr (by simp at G;omega));rw[World.setCell_alloc_past _ _ _ _ A2]at CN;have A0:D (Qk w S pb po _ _ _ _):=qh (CN.1.drew);have BY:=qh (((Ze W11 S3.cb (S3.o+M * 5+4) (A (R ⟨W11.heap.size,0,N⟩) 2 2)).alloc (.cells #[I Z 2,I Z J,I Z 2,I Z H] 40)).drew);have BZ:=qh (DM.o.step BY.o (λc hc=> .inl (by omega)) CN.2.1.2.2.2);have C0:=qh ((BY.o.block O.heap.size ER CM).trans HV.o);have C1:=qh ((BY.o.block V.heap.size (by omega) A5).trans HU.o);exact⟨_,A0.o,BZ.o,C1.o,C0.o,⟨λT=>(Zf T).elim (λh=>(At0.1 h).elim (λh=>by have:=BU.o _ (AD.o _ (Ag _ h)).1;omega) (λh=>by simp at h;omega)) (λh=>by have:=BU.o _ h;omega),λT=>(Zf T).elim (λh=>(At0.1 h).elim (λh=>by have:=BU.o _ (AD.o _ (Ag _ h)).1;omega) (λh=>by simp at h;omega)) (λh=>by have:=BU.o _ h;omega)⟩,BY.o.size⟩
   case rest=>
    obtain⟨S4,A0,BZ,C1,C0,AW,GC⟩:=hcut;rename Bh=>W12
    obtain⟨z,CO⟩:∃z,z=Qa m3 (M:Int) [((2:Int),(J:Int)),(2,(H:Int))]:=⟨_,rfl⟩;rw[<-CO]at A0;have C2:=qh CO;clear CO A3 DM HU HV;have B8:D (E∉l3/\C∉l3/\E≠M/\C≠M/\E≠J/\C≠J/\E≠H/\C≠H):=qh (by obtain⟨f,h2,_⟩:=HC.o;simp only[List.mem_cons,not_or]at f h2;exact⟨f.2.2.2,h2.2.2.2,f.1,h2.1,f.2.1,h2.2.1,f.2.2.1,h2.2.2.1⟩);have B9:D ((mC z).length=(mC mj).length):=qh (by rw[C2.o,Q1k,BV.o]);have CP:D (Q7 (mC z) (E:Int)=Q7 (mC mj) (E:Int)/\Q7 (mC z) (C:Int)=Q7 (mC mj) (C:Int)):=qh (by
     have U:=p.o.first (4,K,0,[],[]);have n:=Yf.take U.2.2 Z5;have e3:=Yf.take n.1 Z5;have hn:=B8.o;constructor
     ·rw[C2.o];unfold Qa;rw[Q2e,if_neg (by simp;omega),CL.o];unfold Qv;rw[Y8,if_neg (by rw[e3.2.1];simp;omega),Y8,if_neg (by rw[n.2.1];simp;omega),Y8,if_neg (by rw[U.1];simp;omega)]
     ·rw[C2.o];unfold Qa;rw[Q2e,if_neg (by simp;omega),CL.o];unfold Qv;rw[Y8,if_neg (by rw[e3.2.1];simp;omega),Y8,if_neg (by rw[n.2.1];simp;omega),Y8,if_neg (by rw[U.1];simp;omega)])
    have GD:w.heap.size<=V.heap.size:=ES;obtain⟨iw,DT,DU,DV,DW⟩:=info_parts Vx;go_upto_region 11 with fail
    go_cut [118] (λ_ wx=>∃S5,D (Qk w S pb po wx (Vb z (E:Int) (2,(J:Int))) S5 l3)/\D (Y9 w S5 wx (A pu oj.length cu) oj)/\D (wx.heap[O.heap.size]?=R (.cells #[I Z 2,I Z H] 40 (0,0)))/\D (O.heap.size∉S5.all)/\W12.heap.size<=wx.heap.size)
    case first=>
     obtain⟨EU,EV,GE,BA,EW,AO,AP,AB,AC⟩:=A0.o.focusN (i:=E) (by rw[B9.o];exact AA.o.1) B8.o.1;have B6:=qh AC;have BB:=qh AO;have CQ:=qh AP;have AD:=qh AB;clear AC AO AP AB;have EX:D ((aW (Q7 (mC z) (E:Int))).length=j):=qh (by rw[CP.o.1];exact CH.o.1);obtain⟨_,_,c0,-,-,-,-,-,-,-,-⟩:=A0.o.mem.head;have AE:=A0.o.mem.cells.bound;unfold Bp at AE;obtain⟨DO,DP⟩:=AE;obtain⟨B7,DQ⟩:=A0.o.mem.ne;have BX:=λq=>A0.o.mem.cells.blk.free q;obtain⟨⟨u0,u1⟩,-⟩:=Za C1.o;have DR:=A0.o.mem.blk.lt;have A2:=A0.o.mem.cells.blk.lt;have EY:(0:Int)<=E:=by omega
     have EZ:E<(mC z).length:=by have:=B9.o;have:=AA.o.1;omega
     have F0:(E:Int)<(mC z).length:=by have:=B9.o;have:=AA.o.1;omega
     have AF:=A0.o.cb;have DS:S4.cb<w.heap.size:=by rw[AF];exact AL.o.2
     clear AF;have A5:V.heap.size≠S4.cb:=by omega
     have F1:=Qpr;rw[<-Qpr _ (.tmp 114)]
     go_region_held3(λw'=>w'.cell? ⟨pb,po,N⟩=R (A (R ⟨S4.cb,S4.o,N⟩) (mC z).length S4.cap)/\w'.cell? ⟨V.heap.size,0,N⟩=R (I Z 2)/\w'.cell? ⟨V.heap.size,1,N⟩=R (I Z J))
      (first|exact F2.o|exact F3.o|(refine Q9c (w:=W12) ?_ c0 u0 u1;go_grown))
      ((refine Y6 _ rfl (.tmp 115) (.tmp 117) 132 rfl (e:=Q4) 40 iw _ 16 underlying132 DT DU DV DW rfl (by decide) (v:=A EU (aW (Q7 (mC z) (E:Int))).length EV) (xs:=aW (Q7 (mC z) (E:Int))) (y:=((2:Int),(J:Int))) (vs:=[I Z 2,I Z J]) (F:=BA) W12.heap.size 1 rfl rfl (BB.o.kept λb G=>Az _ _ _ (BB.o.lt b G)) CQ.o (Ow.word (by unfold Qqm;omega) BW.o.1) (Q5g (Q8 (Bg W12.drew _) rfl) (Q8 (Bg W12.drew _) rfl)) Qj1 (by have:=EX.o;omega) ?_;intro p2 k2 DX F4 AG AH AI AJ;have CR:=qh AG;have CS:=qh AH;have A8:=qh AI;have A1:=qh (Q1.trans (show Q1 (λc=>c∈BA) W12 _ by first|exact((Q1.refl _ W12).drew).alloc _|exact((Q1.refl _ W12).alloc _).drew) AJ);have BC:S4.cb∉BA:=λe=>(AD.o _ (Af _ e)).2.2 rfl;have CT:pb∉BA:=λe=>(AD.o _ (Af _ e)).2.1 rfl;have BD:V.heap.size∉BA:=λe=>AW.o.1 (AD.o _ (Af _ e)).1;have x4:=(A1.o.cell A2 BC (S4.o+E * 5+4)).trans EW;have xf:=λq=>(A1.o.frozen A2 BC q).trans (BX q);have hk:=Q9e A1.o c0 u0 u1 CT BD BD;have F2:=qh hk;have F3:=qh (Q9e (X:=λc=>c=S4.cb) (Ze DX S4.cb (S4.o+E * 5+4) (A p2 ((aW (Q7 (mC z) (E:Int))).length+1) k2)) hk.1 hk.2.1 hk.2.2 B7 A5 A5);clear AG AH AI AJ hk))
     all_goals
      go_wp2_with fail
      go_meet;have BE:=B6.o DX p2 ((aW (Q7 (mC z) (E:Int))).length+1) k2 (aW (Q7 (mC z) (E:Int))++ [((2:Int),(J:Int))]) F4 A1.o CR.o (by simp) CS.o (λb G=>(A8.o b G).imp id λe=>by rw[e];simp);exact⟨_,BE.1,BZ.o.step BE.2.2 (λc hc=> .inr hc) BE.2.1.2.2.2,(BE.2.2.block O.heap.size (by omega) AW.o.2).trans C0.o,(λT=>by
       rcases Zf T with h|h
       ·rcases At0.1 h with h|h
        ·exact AW.o.2 (AD.o _ (Ag _ h)).1
        ·rcases A8.o _ h with h|h
         ·exact AW.o.2 (AD.o _ (Af _ h)).1
         ·simp at h;omega
       ·exact AW.o.2 h),BE.2.2.size⟩
    case rest=>
     obtain⟨S5,A6,F5,F6,F7,GF⟩:=hcut;rename Bh=>W14
     obtain⟨s,BF⟩:∃s,s=Vb z (E:Int) (2,(J:Int)):=⟨_,rfl⟩;rw[<-BF]at A6;have DY:=qh BF;have BG:D ((mC s).length=(mC mj).length):=qh (by rw[BF];unfold Vb;rw[Q1k,B9.o]);have DZ:D (Q7 (mC s) (C:Int)=Q7 (mC mj) (C:Int)):=qh (by rw[BF];unfold Vb Qa;rw[Q2e,if_neg (by have:=HC.o.2.2;simp;omega)];exact CP.o.2);clear BF A0 BZ C1 C0 AW;go_upto_region 12 with fail
     go_cut [136] (λ_ wx=>∃S6,D (Qk w S pb po wx (Vb s (C:Int) (2,(H:Int))) S6 l3)/\D (Y9 w S6 wx (A pu oj.length cu) oj)/\W14.heap.size<=wx.heap.size)
     case first=>
      obtain⟨F8,F9,GG,BH,FA,AO,AP,AB,AC⟩:=A6.o.focusN (i:=C) (by rw[BG.o];exact AA.o.2) B8.o.2.1;have B6:=qh AC;have BB:=qh AO;have CQ:=qh AP;have CU:=qh AB;clear AC AO AP AB;have FB:D ((aW (Q7 (mC s) (C:Int))).length=j):=qh (by rw[DZ.o];exact CH.o.2);obtain⟨_,_,c0,-,-,-,-,-,-,-,-⟩:=A6.o.mem.head;have AE:=A6.o.mem.cells.bound;unfold Bp at AE;obtain⟨DO,DP⟩:=AE;obtain⟨B7,DQ⟩:=A6.o.mem.ne;have BX:=λq=>A6.o.mem.cells.blk.free q;obtain⟨⟨u0,u1⟩,-⟩:=Za F6.o;have DR:=A6.o.mem.blk.lt;have A2:=A6.o.mem.cells.blk.lt;have EY:(0:Int)<=C:=by omega
      have EZ:C<(mC s).length:=by have:=BG.o;have:=AA.o.2;omega
      have F0:(C:Int)<(mC s).length:=by have:=BG.o;have:=AA.o.2;omega
      have AF:=A6.o.cb;have DS:S5.cb<w.heap.size:=by rw[AF];exact AL.o.2
      clear AF;have A5:O.heap.size≠S5.cb:=by omega
      have F1:=Qpr;rw[<-Qpr _ (.tmp 132)]
      go_region_held3(λw'=>w'.cell? ⟨pb,po,N⟩=R (A (R ⟨S5.cb,S5.o,N⟩) (mC s).length S5.cap)/\w'.cell? ⟨O.heap.size,0,N⟩=R (I Z 2)/\w'.cell? ⟨O.heap.size,1,N⟩=R (I Z H))
       (first|exact FC.o|exact FD.o|(refine Q9c (w:=W14) ?_ c0 u0 u1;go_grown))
       ((refine Y6 _ rfl (.tmp 133) (.tmp 135) 132 rfl (e:=Q4) 40 iw _ 16 underlying132 DT DU DV DW rfl (by decide) (v:=A F8 (aW (Q7 (mC s) (C:Int))).length F9) (xs:=aW (Q7 (mC s) (C:Int))) (y:=((2:Int),(H:Int))) (vs:=[I Z 2,I Z H]) (F:=BH) W14.heap.size 1 rfl rfl (BB.o.kept λb G=>Az _ _ _ (BB.o.lt b G)) CQ.o (Ow.word (by unfold Qqm;omega) BW.o.2) (Q5g (Q8 (Bg W14.drew _) rfl) (Q8 (Bg W14.drew _) rfl)) Qj1 (by have:=FB.o;omega) ?_;intro p2 k2 E0 FE AG AH AI AJ;have CR:=qh AG;have CS:=qh AH;have A8:=qh AI;have A1:=qh (Q1.trans (show Q1 (λc=>c∈BH) W14 _ by first|exact((Q1.refl _ W14).drew).alloc _|exact((Q1.refl _ W14).alloc _).drew) AJ);have BC:S5.cb∉BH:=λe=>(CU.o _ (Af _ e)).2.2 rfl;have CT:pb∉BH:=λe=>(CU.o _ (Af _ e)).2.1 rfl;have BD:O.heap.size∉BH:=λe=>F7.o (CU.o _ (Af _ e)).1;have x4:=(A1.o.cell A2 BC (S5.o+C * 5+4)).trans FA;have xf:=λq=>(A1.o.frozen A2 BC q).trans (BX q);have hk:=Q9e A1.o c0 u0 u1 CT BD BD;have FC:=qh hk;have FD:=qh (Q9e (X:=λc=>c=S5.cb) (Ze E0 S5.cb (S5.o+C * 5+4) (A p2 ((aW (Q7 (mC s) (C:Int))).length+1) k2)) hk.1 hk.2.1 hk.2.2 B7 A5 A5);clear AG AH AI AJ hk))
      all_goals
       go_wp2_with fail
       go_meet;have C3:=B6.o E0 p2 ((aW (Q7 (mC s) (C:Int))).length+1) k2 (aW (Q7 (mC s) (C:Int))++ [((2:Int),(H:Int))]) FE A1.o CR.o (by simp) CS.o (λb G=>(A8.o b G).imp id λe=>by rw[e];simp);exact⟨_,C3.1,F5.o.step C3.2.2 (λc hc=> .inr hc) C3.2.1.2.2.2,C3.2.2.size⟩
     case rest=>
      obtain⟨S6,AX,FF,GH⟩:=hcut;rename Bh=>W16
      have AN:=(AX.o.cell AK (λe=>AT.o ((Aq.1 e).imp id id)) (yo+4)).trans y4;have C4:=(AX.o.cell AV.o.1 (λe=>AV.o.2 ((Aq.1 e).imp id id)) _).trans f0;have C5:=(AX.o.cell AV.o.1 (λe=>AV.o.2 ((Aq.1 e).imp id id)) _).trans f1;have GI:=AX.o.fr.size;have E1:D (Qqm (M:Int)):=qh (by have G:=p.o.mem.cells.bound;have U:=p.o.first Z5;unfold Bp at G;unfold Qqm;omega);have GJ:Y<W16.heap.size:=by omega
      have GK:by_<W16.heap.size:=by have:=AV.o.1;omega
      obtain⟨il,FG,FH,FI,BS⟩:=info_parts Q0q;have GL:=qh (Q2d (t:=Qu) (x:=((wt,wa),((1:Int),(M:Int)))) (Q6q BT.o.1 BT.o.2 (by unfold Qqm;omega) E1.o));obtain⟨Fo,E2⟩:=FF.o;have A4:=qh E2;clear E2;have BI:D (Yr K E C (mj,oj) (wt,wa)=(Vb s (C:Int) (2,(H:Int)),oj++ [((wt,wa),((1:Int),(M:Int)))])):=qh (by have U:=p.o.first (4,K,0,[],[]);have n:=Yf.take U.2.2 Z5;have e3:=Yf.take n.1 Z5;rw[DY.o,C2.o,CL.o];unfold Yr Qv;simp only;rw[U.1,n.2.1];show(Vb (Vb (Qa (Qj (Qj (Qj mj (4,K,0,[],[])) Z5) Z5) (M:Int) [(2,(J:Int)),(2,mF (Qj (Qj mj (4,K,0,[],[])) Z5))]) E (2,(J:Int))) C (2,mF (Qj (Qj mj (4,K,0,[],[])) Z5)),_)=_;rw[e3.2.1]);have FJ:D ((aW (Q7 (mC (Vb s (C:Int) (2,(H:Int)))) (E:Int))).length=j+1/\(aW (Q7 (mC (Vb s (C:Int) (2,(H:Int)))) (C:Int))).length=j+1):=qh (by
       have f:=HC.o.2.2;have h2:E<(mC mj).length/\C<(mC mj).length:=AA.o;have h3:=CH.o;constructor
       ·unfold Vb Qa;rw[Q2e,if_neg (by simp;omega),DY.o];unfold Vb Qa;rw[Q2e,if_pos (by rw[B9.o];simp;omega)];simp only[aW,Bo,Dw];have:=CP.o.1;rw[this];exact congrArg (· +1) h3.1
       ·unfold Vb Qa;rw[Q2e,if_pos (by rw[BG.o];simp;omega)];simp only[aW,Bo,Dw];have:=DZ.o;rw[this];exact congrArg (· +1) h3.2)
      go_wp2_with fail
      go_region_held3(λw'=>w'.cell? ⟨Y,yo+4,N⟩=R (A (R ⟨by_,oy,N⟩) ws.length cw)/\w'.cell? ⟨by_,oy+j * 2,N⟩=R (I Z wt)/\w'.cell? ⟨by_,oy+j * 2+1,N⟩=R (I Z wa))
       (first|exact FK.o|with_reducible exact Q9c AQ.o AN C4 C5|with_reducible exact Q9c (AQ.o.alloc AQ.o.size _) AN C4 C5|(refine Q9c (w:=W16) ?_ AN C4 C5;go_grown))
       (first|((go_at_call 189;refine(Vj _ (M:Int)).mono ?_;rintro e AR ⟨rfl,G⟩;have AQ:D (Below W16.heap.size W16 AR):=qh (Q0 (by go_grown) G);have GM:=AQ.o.size;clear G))|((refine Y6 _ rfl (.tmp 139) (.tmp 150) 97 rfl (e:=Qu) 120 il _ 32 underlying97 FG FH FI BS rfl (by decide) (v:=A pu oj.length cu) (xs:=oj) (y:=((wt,wa),((1:Int),(M:Int)))) (vs:=[I Z wt,I Z wa,I Z 1,I Z M]) (F:=Fo) AR.heap.size 1 rfl rfl (A4.o.1.kept λb G=>(Az _ _ _ (Ap (A4.o.1.lt b G) AQ.o.size)).trans (AQ.o.block b (A4.o.1.lt b G))) A4.o.2.1 (Ow.link BT.o.1 BT.o.2 (by unfold Qqm;omega) E1.o) (Q81 (Q8 (Bg AR _) rfl) (Q8 (Bg AR _) rfl) (Q8 (Bg AR _) rfl) (Q8 (Bg AR _) rfl)) Qi2 (by have h9:oj.length<=2+j:=DC.o;omega) ?_;intro GN GO GP FL AG AH AI AJ;have FM:=qh AG;have FN:=qh AH;have FO:=qh AI;have E3:=qh (Q1.trans (((Ay AQ.o:Q1 (λc=>c∈Fo) W16 AR)).alloc _) AJ);have FP:Y∉Fo:=λe=>by {have:=(A4.o.2.2 _ e).1;omega};have E4:by_∉Fo:=λe=>by {have:=(A4.o.2.2 _ e).1;have:=AV.o.1;omega};have FK:=qh (Q9e E3.o AN C4 C5 FP E4 E4);clear AG AH AI AJ)))
      go_wp2_with fail
      go_roundw;case rel=>exact⟨j+1,S6,l3,by omega,by go_num,(show Qk _ _ _ _ _ _ _ _ by rw[B5.o,BI.o];exact AX.o.other E3.o (λc hc=>⟨λT=>(Aq.1 T).elim (λe=>by have:=(A4.o.2.2 c hc).1;have:=AL.o.1;omega) (A4.o.2.2 c hc).2,(A4.o.2.2 c hc).1⟩)),(show Y9 _ _ _ _ _ by rw[B5.o,BI.o];exact⟨FL,FM.o,FN.o,λb G=>(FO.o b G).elim (λh=>A4.o.2.2 b h) (λe=>⟨by rw[e];simp;omega,λT=>by have:=AX.o.mem.lt b (Aa _ T);rw[e]at this;simp at this;omega⟩)⟩),(show _<=_ by have:=DB.o;simp only[List.length_cons]at this;omega),(show _/\_/\_ from⟨B8.o.1,B8.o.2.1,HC.o.2.2⟩),(show _/\_ by rw[B5.o,BI.o];simp only;unfold Vb;rw[Q1k,BG.o];exact AA.o),(show _<=_ by rw[B5.o,BI.o];simp only[Bo,Dw];have h9:oj.length<=2+j:=DC.o;omega),(show _/\_ by rw[B5.o,BI.o];exact FJ.o)⟩
      case measure=>simp[intOf];omega
  ·have FQ:ws.length<=j:=by omega
   have E5:D (ws.take j=ws):=qh (Ao FQ);have AN:=(p.o.cell AK (λe=>AT.o ((Aq.1 e).imp id id)) (yo+4)).trans y4;go_wp2_with fail
   go_ret;refine⟨_,S',l',rfl, ?_, ?_⟩
   ·rw[DA.o];rw[E5.o]at p;exact p.o
   ·rw[DA.o];rw[E5.o]at HO;exact HO.o
theorem Qoq(w:Bh)(n:Int):Bq prog 227 #[I Z n] w λe w'=>e=.returned (I Z (Qr5 n))/\w=w':=by
 go_enter func227,ntmps227;go_wp2;go_ret;exact⟨Qm (Qn8 n),rfl⟩
theorem Qo1(w:Bh)(n:Int):Bq prog 265 #[I Z n] w λe w'=>e=.returned (I Z (Qr5 n))/\w=w':=by
 go_enter func265,ntmps265;go_wp2;go_ret;exact⟨Qm (Qku n),rfl⟩
theorem Qix(w:Bh)(B a b:Int):Bq prog 193 #[I Z B,I Z a,I Z b] w λe w'=>e=.returned (I Z (Jd B a b))/\w=w':=by
 have C:=Q8d a;have E:=Q8d b;go_enter func193,ntmps193;go_wp2_with(first|(go_at_call 227;refine(Qoq _ _).mono ?_;rintro e w' ⟨rfl,rfl⟩)|(go_at_call 228;refine(Qon _ _).mono ?_;rintro e w' ⟨rfl,rfl⟩))
 all_goals first
  |(go_ret;exact⟨Qm (by simp_all[Jd]),rfl⟩)
  |(exfalso;simp_all;done)
theorem Qhj(w:Bh)(B a b:Int):Bq prog 251 #[I Z B,I Z a,I Z b] w λe w'=>e=.returned (I Z (Jd B a b))/\w=w':=by
 have C:=Q8d a;have E:=Q8d b;go_enter func251,ntmps251;go_wp2_with(first|(go_at_call 265;refine(Qo1 _ _).mono ?_;rintro e w' ⟨rfl,rfl⟩)|(go_at_call 109;refine(Q2g _ _).mono ?_;rintro e w' ⟨rfl,rfl⟩))
 all_goals first
  |(go_ret;exact⟨Qm (by simp_all[Jd]),rfl⟩)
  |(exfalso;simp_all;done)
end Go.Proofs.YthbpkpnioaniiaaGreat
