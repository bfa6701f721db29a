import Derived.Test.YthbpkpnioaniiaaGreatP29
set_option maxHeartbeats 40000000
set_option maxRecDepth 100000
set_option linter.all false
namespace Go.Proofs.YthbpkpnioaniiaaGreat
open Go.RowKit Go.Proofs.Tryz
open Go.Value renaming int->I,slice->A
open Go.IntKind renaming i64->Z
open Option renaming none->N,some->R
open Go renaming World->Bh,heap_alloc_new->Bg
open Go.IntKind renaming wrap_i64->Cx
open Go.RowKit renaming Below->Bi,intOf->Bv
open List renaming length_append->Bo,take_zero->Hq,foldl_append->De,take_length->Hu
open Nat renaming add_sub_cancel->If
theorem Yy.below{e:Ty}{B w w':Bh}{S:MS}{v:Value}{xs:List e.den}(h:Yy e B S w v xs)(C:Bi w.heap.size w w'):Yy e B S w' v xs:=by
 obtain⟨F,o,n,r⟩:=h;exact⟨F,o.kept λb E=>C.block b (o.lt b E),n,r⟩
theorem Qja{n:Qr2}{x:Int}{m:Qqp}{j:Nat}(h:1<=j):Q00 n x m j=Qj (Q00 n x m (j-1)) (Q3e (Qn n j) x):=by
 obtain⟨i,rfl⟩:∃i,j=i+1:=⟨j-1,by omega⟩;rfl
theorem Qne{n:Qr2}{x:Int}{m:Qqp}{j:Nat}(h:1<=j):Qqi n x m j=Qqi n x m (j-1)++ [mF (Q00 n x m (j-1))]:=by
 obtain⟨i,rfl⟩:∃i,j=i+1:=⟨j-1,by omega⟩;exact Qmb _ _ _ _
theorem Q1.more{X Y:Nat->Prop}{a b c:Bh}(h:Q1 X a b)(k:Q1 Y b c)(E:∀x,Y x->X x\/a.heap.size<=x):Q1 X a c:=
 ⟨k.os.trans h.os,k.tape.trans h.tape,k.output.trans h.output,Au h.size k.size,λx B C=>(k.block x (Ap B h.size) λe=>(E x e).elim C λe=>by omega).trans (h.block x B C)⟩
def zr(r:Nat):List Wd:=List.replicate r (0,0)
theorem Qlu(r:Nat):zr (r+1)=zr r++ [(0,0)]:=List.replicate_succ'
def Zs(w:Bh)(g:Nat)(k l v:Int)(p:Option Addr)(n c:Nat):Prop:=w.cell? ⟨g,0,N⟩=R (I Z k)/\w.cell? ⟨g,1,N⟩=R (I Z l)/\w.cell? ⟨g,2,N⟩=R (I Z v)/\w.cell? ⟨g,3,N⟩=R (A p n c)/\∀u,w.cell? ⟨g,4,N⟩=R u->w.cell? ⟨g,4,N⟩=R u
theorem Qpw{w:Bh}{g:Nat}{k l v:Int}{p:Option Addr}{n c:Nat}{u:Value}{T:TypeId}(h:w.heap[g]?=R (.cells #[I Z k,I Z l,I Z v,A p n c,u] T (0,0))):Zs w g k l v p n c:=
 ⟨Q8 h rfl,Q8 h rfl,Q8 h rfl,Q8 h rfl,λ_ h=>h⟩
theorem Qnk(A8 w:Bh)(B2:Bi A8.heap.size A8 w)(pb po:Nat)(m:Qqp)(S:MS)(h:Z8 w pb po m S)(hS:∀b∈pb::S.all,A8.heap.size<=b)(l:List Nat)(hl:Yf m l)(nb no:Nat)(n:Qr2)(hn:At Je A8 nb no n)(CI:Ys n=true)(by_ T:Int)(DQ:0<=by_/\by_<=8)(CJ:Qqm T)
  (DR:n.length+(Zv n).length<=l.length+1) (hK:(mC m).length<=1500) (hX:(mX m).length<=1000):
  Calls prog 188 #[.pointer (R ⟨pb,po,N⟩),.pointer (R ⟨nb,no,N⟩),I Z by_,.agg #[I Z 1,I Z T]] w λe w'=>∃S' l',e=.returned (.agg #[I Z (V5 n by_ (1,T) m).2.1,I Z (V5 n by_ (1,T) m).2.2])/\Qqm (V5 n by_ (1,T) m).2.2/\Qk w S pb po w' (V5 n by_ (1,T) m).1 S' l':=by
 have DS:=Y5 CI;have AH:=qh DS;have DT:=qh CI;have HN:=qh hn;have HC:=qh B2;have HM:=qh h;have CK:=qh hl;have HD:=qh hS;have DU:=qh CJ;have CL:=qh DR;have A9:=qh hK;have FD:=qh hX;have HE:=qh DQ;obtain⟨HF,HH⟩:=DQ;obtain⟨⟨HJ,FE⟩,-,-,-⟩:=DS;have HK:=CJ.bd;have DV:D (∀W,Bi A8.heap.size A8 W->At Je W nb no n):=qh (λW B=>hn.kept (Am B));have CM:D (∀W,Q1 (λc=>c=pb\/c∈S.all) w W->Bi A8.heap.size A8 W):=qh (λW U=>B2.trans (U.below B2.size λc hc=>hS c (hc.elim (λe=>e▸Ae) (Aa _))));obtain⟨np,nc,DW,-,nm,DX⟩:=hn.net;have FF:D (∀W,Bi A8.heap.size A8 W->W.cell? ⟨nb,no,N⟩=R (A np n.length nc)/\Rd (.slice Q3) W [A np n.length nc] n):=qh (λW B=>⟨(Am B).cell _ _ DW,DX.kept (Am B)⟩);clear hn CI h hl hS CJ DR hK hX B2 DW DX;go_enter func188,ntmps188;go_upto_region 1 with fail
 refine Qq ?_;intro W0 BL;have CN:D (Bi w.heap.size w W0):=qh (by rw[BL];go_grown);have FG:W0.heap.size=w.heap.size+2:=by rw[BL];simp
 have CO:D (W0.heap[w.heap.size]?=R (.cells #[I Z 1,I Z T] 40 (0,0))/\W0.heap[w.heap.size+1]?=R (.cells #[I Z 0,I Z 0] 40 (0,0))):=qh (by rw[BL];exact Jn w _ _ _ _);have AS:D (Z8 W0 pb po m S):=qh (HM.o.kept CN.o);have FH:=qh (Qk.start AS.o CK.o);clear BL;go_upto_region 2 with fail
 refine Qq ?_;intro W1 CP;have DY:D (Qk W0 S pb po W1 m S l):=qh (by rw[CP];exact FH.o.below (Below.alloc (Ai _ _) (Aj _) _));have AD:D (Yy .int W0 S W1 (A (R ⟨w.heap.size+2,0,N⟩) 1 1) (Qqi n by_ m 0)):=qh (by rw[CP,<-FG];exact⟨[W0.heap.size],Q9f (Bg W0 _) (by unfold Qqm;omega),by simp,λb B=>by rw[Bb.1 B];exact⟨Aj _,λL=>Nat.lt_irrefl _ (AS.o.lt _ (Aa _ L))⟩⟩);clear CP;go_upto_region 3 with fail
 go_loopw [9,10] (λu i wr=>∃(j:Nat) (S':MS),1<=j/\j<=n.length/\i=I Z j/\D (Qk W0 S pb po wr (Q00 n by_ m (j-1)) S' (l.drop (j-1)))/\D (Yy .int W0 S' wr u (Qqi n by_ m (j-1)))) (λ_ i _=>n.length-(Bv i).toNat);case atStart=>exact⟨1,S,by omega,FE,by go_num,DY.o,AD.o⟩
 case round=>
  rename Bh=>wo
  obtain⟨j,S',CQ,hj,rfl,HS,HA⟩:=hrel;obtain⟨pa,ca,rfl⟩:=HA.o.form;have CR:D (Q1 (λc=>c=pb\/c∈S.all) w wo):=qh (Q1.trans (Ay CN.o) HS.o.fr);obtain⟨c0,B3⟩:=FF.o wo (CM.o wo CR.o);have FI:=qh B3;clear B3 DY AD;by_cases A1:j<n.length
  ·obtain⟨bx,ox,rfl,hx⟩:=Rd.elem FI.o j A1
   have hx:At Q3 wo bx (ox+j * 5) n[j]:=hx;have CS:Qn n j=n[j]:=Qx A1;have BM:=AH.o.2.2.1 j;have CT:=AH.o.2.1 j A1;rw[CS]at BM CT;generalize n[j]=x at *
   obtain⟨k,le,v,d,ws⟩:=x;simp only[aD,aW]at BM;obtain⟨pd,cd,pw,cw,⟨f,t,y2,y3,y4⟩,iy,⟨-,-,B3⟩,-⟩:=hx.agent;have CU:=qh iy;have DZ:=qh B3;have E0:=qh CT;have FJ:=qh CS;have HX:=qh hx;have CV:=qh BM;clear iy B3 CT CS hx BM;go_upto_region 6 with fail
   have B4:=Ac wo _ f;simp only at B4;have E1:D (d.length<=100000000):=qh (by have:=CV.o.1;omega);have FK:=qh (DZ.o.kept (Am (w':=(wo.alloc (.cells #[I Z 0,I Z 0,I Z 0,A N 0 0,A N 0 0] 134)).drew) (by go_grown)));have FL:=qh (DZ.o.kept (Am (w':=wo.drew) (by go_grown)));have FM:D (Q21 ((wo.alloc (.cells #[I Z 0,I Z 0,I Z 0,A N 0 0,A N 0 0] 134)).drew) wo.heap.size 134):=qh (Bg wo _);go_cut [12] (λx wx=>∃(g:Nat) (p1:Option Addr) (c1:Nat),x=.pointer (R ⟨g,0,N⟩)/\D (wx.heap[g]?=R (.cells #[I Z k,I Z le,I Z v,A p1 d.length c1,A N 0 0] 134 (0,0)))/\D (wo.heap.size<=g)/\D (∃G,Ow (.slice .int) wx [A p1 d.length c1] d G/\G.Nodup/\∀b∈G,wo.heap.size<=b/\b≠g)/\D (Bi wo.heap.size wo wx))
   case first=>
    go_region_held3(λw'=>w'.cell? ⟨bx,ox+j * 5,N⟩=R (I Z k)/\w'.cell? ⟨bx,ox+j * 5+1,N⟩=R (I Z le)/\w'.cell? ⟨bx,ox+j * 5+2,N⟩=R (I Z v)/\w'.cell? ⟨bx,ox+j * 5+3,N⟩=R (A pd d.length cd))
     (first|with_reducible exact Q6z A2.o f t y2 y3|with_reducible exact Q6z (A2.o.alloc A2.o.size _) f t y2 y3|with_reducible exact Q6z (((((A2.o.setCell (Aj _) _).setCell (Aj _) _).setCell (Aj _) _).setCell (Aj _) _).setCell (Aj _) _) f t y2 y3|with_reducible exact Q6z ((((((A2.o.alloc A2.o.size _).setCell (A2.o.size) _).setCell (A2.o.size) _).setCell (A2.o.size) _).setCell (A2.o.size) _).setCell (A2.o.size) _) f t y2 y3|(refine Q6z (w:=wo) ?_ f t y2 y3;go_grown)|fail)
     (first|((go_at_call 54;(with_reducible refine(Q2o ((wo.alloc (.cells #[I Z 0,I Z 0,I Z 0,A N 0 0,A N 0 0] 134)).drew) _ d FK.o E1.o).mono ?_);rintro e w1 ⟨v1,rfl,ho,B⟩;obtain⟨p1,CW,rfl,-,-⟩:=ho.form;have A2:D (Bi wo.heap.size wo w1):=qh (Q0 (by go_grown) B);have CX:=qh (Q21.kept FM.o B);have HL:=λq=>CX.o.blk.free q;obtain⟨r0,r1,r2,r3,r4⟩:=CX.o.cells;have B5:=qh ho;clear ho B))|((go_at_call 54;(with_reducible refine(Q2o wo.drew _ d FL.o E1.o).mono ?_);rintro e w1 ⟨v1,rfl,ho,B⟩;obtain⟨p1,CW,rfl,-,-⟩:=ho.form;have A2:D (Bi wo.heap.size wo w1):=qh (Q0 (by go_grown) B);have B5:=qh ho;clear ho B))|fail)
    ·go_wp2_with fail
     go_meet;obtain⟨G,og,ng,bg⟩:=B5.o.ow rfl;exact⟨w1.heap.size,p1,CW,rfl,Bg w1 _,A2.o.size,⟨G,og.kept λb B=>Az _ _ _ (og.lt b B),ng,λb B=>⟨by have:=(bg b B).1;simpa using this,λe=>by have:=og.lt b B;omega⟩⟩,A2.o.alloc A2.o.size _⟩
    ·go_wp2_with fail
     go_meet;obtain⟨G,og,ng,bg⟩:=B5.o.ow rfl;have E2:∀b∈G,b≠wo.heap.size:=λb B e=>by have:=(bg b B).1;simp at this;omega
     exact⟨wo.heap.size,p1,CW,rfl,Q22 CX.o _ _ _ _ _,Aj _,⟨G,og.frame (Q1c (X:=λc=>c=wo.heap.size) (Q1.refl _ w1) (o:=0) (p:=1) (q:=2) (r:=3) (s:=4) rfl _ _ _ _ _) λb B=>⟨og.lt b B,E2 b B⟩,ng,λb B=>⟨by have:=(bg b B).1;simp at this;omega,E2 b B⟩⟩,(((((A2.o.setCell (Aj _) _).setCell (Aj _) _).setCell (Aj _) _).setCell (Aj _) _).setCell (Aj _) _)⟩
   case rest=>
    obtain⟨g,p1,c1,rfl,HG,AE,HQ,BN⟩:=hcut;rename Bh=>W6
    obtain⟨z0,z1,z2,z3,z4⟩:Zs W6 g k le v p1 d.length c1:=Qpw HG.o;have E3:=λq=>(show Q0f W6 g 134 from⟨_,HG.o⟩).free q;obtain⟨q,hq⟩:∃q,q=Y1 k:=⟨_,rfl⟩;obtain⟨A7,BO⟩:∃x,x=if Y1 k then le+by_ else le:=⟨_,rfl⟩;have FN:=qh BO;have CY:q=true->0<=le/\le<=8:=λe=>Q8z E0.o (show Y1 k=true by rw[<-hq];exact e);have CZ:q=true->A7=le+by_:=λe=>by rw[BO,<-hq,e];rfl
    have D0:q=false->A7=le:=λe=>by rw[BO,<-hq,e];rfl
    have FO:D (Qqm A7):=qh (by
     cases q
     ·rw[D0 rfl];exact CU.o.2.1
     ·rw[CZ rfl];have:=CY rfl;unfold Qqm;omega)
    go_upto_if 59 with((go_at_call 224;(with_reducible refine(Q60 _ k).mono ?_);rintro e wx ⟨rfl,rfl⟩))
    rw[<-hq];clear hq BO;go_cut [63] (λ_ wx=>D (wx.heap[g]?=R (.cells #[I Z k,I Z A7,I Z v,A p1 d.length c1,A N 0 0] 134 (0,0)))/\D (Q1 (λc=>c=g) W6 wx))
    case first=>
     cases q
     ·have h3:=qh (D0 rfl)
      go_wp2_with fail
      go_meet;rw[h3.o];exact⟨HG.o,Q1.refl _ _⟩
     ·obtain⟨HO,HR⟩:=CY rfl
      have h2:=qh (CZ rfl);go_wp2_with fail
      go_meet;rw[h2.o];exact⟨Qik HG.o _,Jl (X:=λc=>c=g) (Q1.refl _ _) rfl _⟩
    case rest=>
     obtain⟨E4,B6⟩:=hcut;rename Bh=>W8
     clear z0 z1 z2 z3 z4 E3 CY CZ D0;obtain⟨iw,FP,AA,FQ,FR⟩:=info_parts Vx;obtain⟨ii,FT,FU,FV,FW⟩:=info_parts Q3x;have FX:D (1<=ws.length):=qh (Q31 E0.o);have HU:wo.heap.size<=W8.heap.size:=Au BN.o.size B6.o.size;have HV:g<W8.heap.size:=(Al.1 E4.o).1;have HW:=qh B4;have FY:W8.cell? ⟨bx,ox+j * 5+4,N⟩=R (A pw ws.length cw):=(B6.o.cell (by have:=BN.o.size;omega) (λe=>by have:=AE.o;omega) _).trans ((Am BN.o).cell _ _ y4);go_upto_region 10 with fail
     go_loopw [13] (λi wx=>∃(r:Nat) (p2:Option Addr) (c2:Nat),r+1<=ws.length/\i=I Z (r+1:Nat)/\D (wx.heap[g]?=R (.cells #[I Z k,I Z A7,I Z v,A p1 d.length c1,A p2 (zr r).length c2] 134 (0,0)))/\D (∃G,Ow (.slice Q4) wx [A p2 (zr r).length c2] (zr r) G/\G.Nodup/\∀b∈G,W8.heap.size<=b)/\D (Q1 (λc=>c=g) W8 wx)) (λi _=>ws.length-(Bv i).toNat);case atStart=>exact⟨0,N,0,FX.o,rfl,E4.o,⟨[],Ow.nil _,by simp,by simp⟩,Q1.refl _ _⟩
     case round=>
      obtain⟨r,p2,c2,hr,rfl,AI,E5,B7⟩:=hrel;have HY:ws.length<=4:=CV.o.2;have HZ:=(B7.o.cell (show bx<W8.heap.size by omega) (show ¬bx=g from λe=>by have:=AE.o;omega) _).trans FY;by_cases I0:r+1<ws.length
      ·obtain⟨Fr,D1,E6,E7⟩:=E5.o
       have FZ:D (Ow (.slice Q4) (wr.alloc (.cells #[I Z 0,I Z 0] 40)) [A p2 (zr r).length c2] (zr r) Fr):=qh (D1.kept λb B=>Az _ _ _ (D1.lt b B));have G3:=qh E6;have D2:=qh E7;have z4:wr.cell? ⟨g,4,N⟩=R (A p2 (zr r).length c2):=Q8 AI.o rfl;have I1:g<wr.heap.size:=(Al.1 AI.o).1;have I2:=B7.o.size;have G4:D ((zr r).length+1<=1000000000):=qh (by have:=CV.o.2;simp[zr];omega);have E8:D (Qqm 0/\Qqm 0):=qh (by unfold Qqm;omega);have G5:=qh (Qw (o':=.cells #[I Z 0,I Z 0] 40) AI.o);clear D1 E6 E7;go_wp2_with((at_builtin;go_loud(refine Q0t _ rfl (.tmp 75) (.tmp 77) 132 rfl (e:=Q4) 40 iw _ 16 underlying132 FP AA FQ FR rfl (by decide) (v:=A p2 (zr r).length c2) (xs:=zr r) (y:=((0:Int),(0:Int))) (vs:=[I Z 0,I Z 0]) (F:=Fr) wr.heap.size 1 rfl rfl FZ.o G3.o (Ow.word E8.o.1 E8.o.2) (Q5g (Q8 (Bg wr _) rfl) (Q8 (Bg wr _) rfl)) (by simp[Value.oneCell']) G4.o ?_;intro p3 c3 w3 F3 AJ AK AT AU;have AP:=qh AJ;have G6:=qh AK;have B8:=qh AT;have BP:=qh AU;have D3:D (w3.heap[g]?=R (.cells #[I Z k,I Z A7,I Z v,A p1 d.length c1,A p2 (zr r).length c2] 134 (0,0))):=qh ((AU.block g (by simp;omega) (λe=>by have:=D2.o g e;omega)).trans G5.o);have E3:=(λq=>(show Q0f w3 g 134 from⟨_,D3.o⟩).free q);have I3:w3.cell? ⟨g,4,N⟩=R (A p2 (zr r).length c2):=Q8 D3.o rfl;clear AJ AK AT AU)))
       go_roundw;case rel=>
        have e:(zr (r+1)).length=(zr r).length+1:=by rw[Qlu,Bo];rfl
        have E9:∀b∈F3,W8.heap.size<=b:=λb B=>(B8.o b B).elim (D2.o b) λe=>by rw[e];simp;omega
        exact⟨r+1,p3,c3,by omega,by go_num,by rw[e];exact Qas D3.o _,⟨F3,by rw[e,Qlu];exact AP.o.frame (Jl (X:=λc=>c=g) (Q1.refl _ _) rfl _) λb B=>⟨AP.o.lt b B,λe=>by have:=E9 b B;omega⟩,G6.o,E9⟩,Jl (B7.o.more ((Q1.refl (λb=>b∈Fr) wr).alloc _|>.trans BP.o) λx hx=> .inr (D2.o x hx)) rfl _⟩
       case measure=>simp[Bv];omega
      ·have EA:r+1=ws.length:=by omega
       have BQ:=qh EA;have D4:l.drop (j-1)=l.getD (j-1) 0::l.drop j:=by
        have hl:j-1<l.length:=by have:=CL.o;omega
        rw[List.drop_eq_getElem_cons hl,Ab,Ad hl,Nat.sub_add_cancel CQ];rfl
       obtain⟨a,ha⟩:∃a,a=l.getD (j-1) 0:=⟨_,rfl⟩;rw[<-ha]at D4;have EB:D (Q1 (λc=>c=g) wo wr):=qh ((B6.o.more B7.o λx hx=> .inl hx)|>λh=>(Ay BN.o:Q1 (λc=>c=g) wo W6).more h λx hx=> .inl hx);have AQ:D (Qk W0 S pb po wr (Q00 n by_ m (j-1)) S' (a::l.drop j)):=qh (by rw[<-D4];exact HS.o.other EB.o λc hc=>by subst hc;exact⟨λL=>by have:=HS.o.mem.lt c L;have:=AE.o;omega,by have:=AE.o;have:=HS.o.size;omega⟩);clear D4 ha;obtain⟨G2,AJ,AK,BR⟩:=E5.o;obtain⟨G1,BS,EC,D5⟩:=HQ.o;have G7:D (Ow (.slice .int) wr [A p1 d.length c1] d G1):=qh (BS.frame (B6.o.more B7.o λx hx=> .inl hx) λb B=>⟨BS.lt b B,(D5 b B).2⟩);have B5:D (Ow Q3 wr [I Z k,I Z A7,I Z v,A p1 d.length c1,A p2 (zr r).length c2] (k,A7,v,d,zr r) (G1++G2)):=qh (Ow.mkAgent CU.o.1 FO.o CU.o.2.2 G7.o AJ);have G8:D (Q3e (Qn n j) by_=(k,A7,v,d,zr r)):=qh (by rw[FJ.o,FN.o];unfold Q3e zr;simp only[aK,aL,aV,aD,aW];rw[show ws.length-1=r by have:=BQ.o;omega];rfl);have G9:D ((G1++G2).Nodup):=qh (Ba.2 ⟨EC,AK,λx hx y hy e=>by have:=BS.lt x hx;have:=BR y hy;have:=B6.o.size;omega⟩);have BT:D (∀b∈G1++G2,wo.heap.size<=b):=qh (λb B=>(At0.1 B).elim (λh=>(D5 b h).1) λh=>by have:=BR b h;omega);have ED:=HS.o.mem.lt;have EE:D ((∀b∈G1++G2,b∉pb::S'.all)/\∀b∈G1++G2,W0.heap.size<=b):=qh (⟨λb B L=>by have:=BT.o b B;have:=ED b L;omega,λb B=>by have:=BT.o b B;have:=HS.o.size;omega⟩);clear AJ AK BR BS EC D5 EA ED;obtain⟨Fa,oa,na,ba⟩:=HA.o;have D6:D (Ow (.slice .int) wr [A pa (Qqi n by_ m (j-1)).length ca] (Qqi n by_ m (j-1)) Fa):=qh (oa.frame EB.o λb B=>⟨oa.lt b B,λe=>by have:=oa.lt b B;have:=AE.o;omega⟩);have GA:=qh na;have AV:=qh ba;have EF:D (∀b∈Fa,b<wo.heap.size):=qh (λb B=>oa.lt b B);have GB:D (Qqm (a:Int)):=qh (by have:=(AQ.o.first Z5).2.1;have B:=AQ.o.mem.cells.bound;unfold maxLen at B;unfold Qqm;omega);have AL:D ((Qqi n by_ m (j-1)).length+1<=1000000000):=qh (by rw[Qca];omega);clear oa na ba;have q0:wr.cell? ⟨g,0,N⟩=R (I Z k):=Q8 AI.o rfl;have q1:wr.cell? ⟨g,1,N⟩=R (I Z A7):=Q8 AI.o rfl;have q2:wr.cell? ⟨g,2,N⟩=R (I Z v):=Q8 AI.o rfl;have q3:wr.cell? ⟨g,3,N⟩=R (A p1 d.length c1):=Q8 AI.o rfl;have q4:wr.cell? ⟨g,4,N⟩=R (A p2 (zr r).length c2):=Q8 AI.o rfl;go_wp2_with(first|((go_at_call 192;(with_reducible refine(Q4v AQ.o k A7 v p1 p2 d.length c1 (zr r).length c2 (k,A7,v,d,zr r) (G1++G2) B5.o G9.o EE.o.1 EE.o.2).mono ?_);rintro e w3 ⟨rfl,hs,U⟩;have B8:=qh hs;have BP:=qh U;clear hs U))|((at_builtin;refine Q0t _ rfl (.tmp 80) (.tmp 84) 63 rfl (e:=.int) 2 ii _ 8 underlying63 FT FU FV FW rfl (by decide) (v:=A pa (Qqi n by_ m (j-1)).length ca) (xs:=Qqi n by_ m (j-1)) (y:=(a:Int)) (vs:=[I Z a]) (F:=Fa) w3.heap.size 1 rfl rfl ((D6.o.frame BP.o (λb B=>⟨D6.o.lt b B,λe=>by have:=(AV.o b B).1;have:=AS.o.lt pb Ae;have:=AS.o.lt S.cb (Aa _ Ae);omega⟩)).kept λb B=>Az _ _ _ (Ap (D6.o.lt b B) BP.o.size)) GA.o ⟨rfl,GB.o,rfl⟩ (Qdq (Q8 (Bg w3 _) rfl)) (by simp[Value.oneCell']) AL.o ?_;intro p4 c4 w4 F4 AJ AK AT AU;have BU:=qh AJ;have GC:=qh AK;have GD:=qh AT;have GE:=qh (Q1.trans (show Q1 (λc=>c∈Fa) w3 _ from(Q1.refl _ w3).alloc _) AU);clear AJ AK AT AU))|fail)
       have HT:D (Q00 n by_ m (j+1-1)=Qj (Q00 n by_ m (j-1)) (k,A7,v,d,zr r)):=qh (by rw[If,Qja CQ,G8.o]);have GF:D (Qqi n by_ m (j+1-1)=Qqi n by_ m (j-1)++ [(a:Int)]):=qh (by rw[If,Qne CQ,(AQ.o.first Z5).1]);have BV:D (∀b∈F4,W0.heap.size<=b/\b∉(S'.put a (G1++G2)).all):=qh (λb B=>by
        rcases GD.o b B with h|h
        ·refine⟨(AV.o b h).1,λL=> ?_⟩
         rcases Zf L with L|L
         ·have:=BT.o b L;have:=EF.o b h;omega
         ·exact(AV.o b h).2 L
        ·have h1:=B8.o.size
         simp at h;exact⟨by omega,λL=>by have:=B8.o.mem.lt b (Aa _ L);omega⟩)
       have GG:D (∀c∈Fa,c∉pb::(S'.put a (G1++G2)).all/\W0.heap.size<=c):=qh (λc hc=>⟨λL=>by
        rcases Aq.1 L with e|L
        ·have:=(AV.o c hc).1;have:=AS.o.lt pb Ae;omega
        ·rcases Zf L with L|L
         ·have:=BT.o c L;have:=EF.o c hc;omega
         ·exact(AV.o c hc).2 L,(AV.o c hc).1⟩)
       refine⟨⟨j+1,S'.put a (G1++G2),by omega,by omega,by go_num, ?_, ?_⟩,by simp[Bv];omega⟩
       ·show Qk _ _ _ _ _ _ _ _
        rw[HT.o,If];exact B8.o.other GE.o GG.o
       ·show Yy _ _ _ _ _ _
        rw[GF.o];exact⟨F4,BU.o,GC.o,BV.o⟩
  ·have B9:j=n.length:=by omega
   have I4:=qh B9;obtain⟨m1,BA⟩:∃x,x=Q00 n by_ m (n.length-1):=⟨_,rfl⟩;obtain⟨at_,AW⟩:∃x,x=Qqi n by_ m (n.length-1):=⟨_,rfl⟩;obtain⟨l1,BW⟩:∃x,x=l.drop (n.length-1):=⟨_,rfl⟩;have EG:n.length-1<=l.length:=by have:=CL.o;omega
   have EH:D (Yt n at_ (mC m).length m1 l1):=qh (by rw[BA,AW,BW];exact Q9b CK.o EG);have EI:D ((Zv n).length<=l1.length):=qh (by rw[BW,List.length_drop];have:=CL.o;omega);have A3:D (Qk W0 S pb po wo m1 S' l1):=qh (by rw[BA,BW,<-B9];exact HS.o);rw[B9,<-AW]at HA;have GH:D (mX m1=mX m):=qh (by rw[BA];exact Q94 n by_ m _);have GI:D (∀W,Q1 (λc=>c=pb\/c∈S'.all) wo W->Bi A8.heap.size A8 W):=qh (λW U=>CM.o W (CR.o.more U λx hx=>hx.elim (λe=> .inl (.inl e)) λe=>(A3.o.fresh.2.2.2 x e).elim (λe=> .inl (.inr e)) λe=> .inr (by omega)));have GJ:D (∀i,1<=i->i<n.length->aK (Qn n i)≠0/\0<(aW (Qn n i)).length):=qh (λi h1 h2=>⟨Qi5 (AH.o.2.1 i h2),Q31 (AH.o.2.1 i h2)⟩);have AL:D (at_.length=n.length):=qh (by rw[AW,Qca];omega);have EJ:A pa (Qqi n by_ m (j-1)).length ca=A pa at_.length ca:=by rw[B9,AW]
   have BB:D (V5 n by_ (1,T) m=((Yd n).foldl (λm p=>Yu m (at_.getD p.1.toNat 0) (at_.getD p.2.toNat 0)) ((Yk n).foldl (Y7 at_ (1,T)) (m1,(0,0))).1,((Yk n).foldl (Y7 at_ (1,T)) (m1,(0,0))).2)):=qh (by rw[BA,AW];rfl);rw[EJ];have I5:¬(j:Int)<n.length:=by omega
   clear B9 A1 HS BA AW BW EJ EG;go_upto_region 15 with fail
   refine Qq ?_;intro W2 BX;have EK:D (Bi wo.heap.size wo W2):=qh (by rw[BX];go_grown);have AT:W2.heap.size=wo.heap.size+1:=by rw[BX];simp
   have GK:D (W2.heap[wo.heap.size]?=R (.cells #[I Z 0,I Z 0] 40 (0,0))):=qh (by rw[BX];exact Bg wo _);have GL:=qh (DV.o W2 (CM.o W2 (Q1.trans CR.o (Ay EK.o))));have BY:D (n.length<=1000000/\(Qs n).length<=10000000):=qh (⟨AH.o.2.2.2.1,AH.o.2.2.2.2.1⟩);clear BX;go_upto_region 16 with((go_at_call 221;(with_reducible refine(Qgl W2 nb no n GL.o BY.o.1 BY.o.2).mono ?_);rintro e W3 ⟨GM,rfl,ho,B⟩;have AP:=qh ho;have BC:=qh B;clear ho B))
   obtain⟨ws,D7⟩:∃x,x=Yk n:=⟨_,rfl⟩;have D8:=qh D7;rw[<-D7]at BB AP;have D9:=qh (Q0 EK.o BC.o);have EL:=BC.o.size;have DA:D (Qk wo S' pb po W3 m1 S' l1):=qh ((Qk.start A3.o.mem A3.o.free).below D9.o);have DB:D (W3.heap[wo.heap.size]?=R (.cells #[I Z 0,I Z 0] 40 (0,0))):=qh ((BC.o.block _ (by omega)).trans GK.o);have GN:D (wo.heap.size∉S'.all):=qh (λL=>by have:=A3.o.mem.lt _ (Aa _ L);omega);have BZ:D (Yy Qu W2 S' W3 GM ws):=qh (Yy.ofOwn AP.o rfl (Aj _) λb B=>by have:=A3.o.mem.lt b (Aa _ B);omega);obtain⟨GO,AF,rfl⟩:=BZ.o.form;obtain⟨bt,ot,rfl,-⟩:=Rd.elem HA.o.rd 0 (by rw[AL.o];omega);have C0:D (∀W,Q1 (λc=>c=pb\/c∈S'.all) wo W->∀i:Int,0<=i->i<n.length->W.cell? ⟨bt,ot+i.toNat,N⟩=R (I Z (at_.getD i.toNat 0))/\Qqm (at_.getD i.toNat 0)):=qh (by
    intro W U i h0 h1;obtain⟨F,o,nd,r⟩:=HA.o;have hr:=(o.frame U λb B=>⟨o.lt b B,λe=>e.elim (λe=>by have:=(r b B).1;have:=AS.o.lt pb Ae;omega) (r b B).2⟩).rd;have hi:i.toNat<at_.length:=by rw[AL.o];omega
    obtain⟨b',o',hp,he⟩:=Rd.elem hr i.toNat hi;simp only[Option.some.injEq,Addr.mk.injEq,and_true]at hp;obtain⟨rfl,rfl⟩:=hp;have:=At.int he;simp only[Ty.sz,Nat.mul_one]at this;have e:at_[i.toNat]=at_.getD i.toNat 0:=by rw[Ab,Ad hi];rfl
    rw[e]at this;exact this)
   have AX:D (w.heap.size+1∉pb::S.all/\w.heap.size+1∉S'.all):=qh (by
    have h3:w.heap.size+1∉pb::S.all:=λL=>by have:=HM.o.lt _ L;omega
    exact⟨h3,λe=>(A3.o.fresh.2.2.2 _ e).elim (λe=>h3 (Aa _ e)) λe=>by omega⟩)
   have GP:D (∀W,Q1 (λc=>c=pb\/c∈S'.all) wo W->W.heap[w.heap.size+1]?=R (.cells #[I Z 0,I Z 0] 40 (0,0))):=qh (by
    intro W U;have h2:w.heap.size+1<W0.heap.size:=by omega
    rw[U.block _ (Ap h2 A3.o.size) (λe=>e.elim (λe=>AX.o.1 (e▸Ae)) AX.o.2),A3.o.fr.block _ h2 (λe=>e.elim (λe=>AX.o.1 (e▸Ae)) λe=>AX.o.1 (Aa _ e))];exact CO.o.2)
   have GQ:D (∀W,Q1 (λc=>c=pb\/c∈S'.all) wo W->W.cell? ⟨w.heap.size,0,N⟩=R (I Z 1)/\W.cell? ⟨w.heap.size,1,N⟩=R (I Z T)):=qh (by
    intro W U;have h1:=HM.o.lt;have h2:w.heap.size<W0.heap.size:=by omega
    have h3:w.heap.size∉pb::S.all:=λL=>by have:=h1 _ L;omega
    have h4:¬(w.heap.size=pb\/w.heap.size∈S'.all):=λe=>by
     rcases e with e|e
     ·exact h3 (e▸Ae)
     ·rcases A3.o.fresh.2.2.2 _ e with e|e
      ·exact h3 (Aa _ e)
      ·omega
    exact⟨(U.cell (Ap h2 A3.o.size) h4 0).trans ((A3.o.cell h2 h3 0).trans (Q8 CO.o.1 rfl)),(U.cell (Ap h2 A3.o.size) h4 1).trans ((A3.o.cell h2 h3 1).trans (Q8 CO.o.1 rfl))⟩)
   obtain⟨z,EM⟩:∃F:List Qqt->Qqp×Wd,F=λq=>q.foldl (Y7 at_ (1,T)) (m1,(0,0)):=⟨_,rfl⟩;have C1:=qh EM;have EN:D ((ws.filter λw=>decide (0<w.1.2) && decide (0<w.2.2)).length<=l1.length):=qh (by rw[D8.o];exact EI.o);clear EM D7;go_upto_region 17 with fail
   go_loopw [16] (λi wx=>∃(q:Nat) (S2:MS) (l2:List Nat),q<=ws.length/\i=I Z q/\D (Qk wo S' pb po wx (z (ws.take q)).1 S2 l2)/\D (Yy Qu W2 S2 wx (A GO ws.length AF) ws)/\D (wx.heap[wo.heap.size]?=R (.cells #[I Z (z (ws.take q)).2.1,I Z (z (ws.take q)).2.2] 40 (0,0)))/\D (wo.heap.size∉S2.all)/\D (Yt n at_ (mC m).length (z (ws.take q)).1 l2)/\D ((ws.filter λw=>decide (0<w.1.2) && decide (0<w.2.2)).length<=l2.length+((ws.take q).filter λw=>decide (0<w.1.2) && decide (0<w.2.2)).length)/\D (Qqm (z (ws.take q)).2.1/\Qqm (z (ws.take q)).2.2)) (λi _=>ws.length-(Bv i).toNat);case atStart=>
    have e:z (ws.take 0)=(m1,(0,0)):=by rw[C1.o,Hq];rfl
    refine⟨0,S',l1,Ak _,rfl, ?_,BZ.o, ?_,GN.o, ?_, ?_, ?_⟩
    ·show Qk _ _ _ _ _ _ _ _
     rw[e];exact DA.o
    ·show _=_
     rw[e];exact DB.o
    ·show Yt _ _ _ _ _
     rw[e];exact EH.o
    ·show _<=_
     rw[Hq];exact EN.o
    ·show _/\_
     rw[e];unfold Qqm;simp
   case round=>
    obtain⟨q,S2,l2,hq,rfl,AR,C2,AM,C3,A5,DC,AY⟩:=hrel;by_cases A1:q<ws.length
    ·obtain⟨bw,ow,rfl,hE⟩:=Rd.elem C2.o.rd q A1
     have hE:At Qu wr bw (ow+q * 4) ws[q]:=hE;have EO:=qh (Qiw DT.o (w:=ws[q]) (by rw[<-D8.o];exact As A1));have BV:D (z (ws.take (q+1))=Y7 at_ (1,T) (z (ws.take q)) ws[q]):=qh (by rw[C1.o];simp only;rw[An A1,De];rfl);have DD:D (((ws.take (q+1)).filter λw=>decide (0<w.1.2) && decide (0<w.2.2)).length=((ws.take q).filter λw=>decide (0<w.1.2) && decide (0<w.2.2)).length+(if decide (0<ws[q].1.2) && decide (0<ws[q].2.2)then 1 else 0)):=qh (by
      rw[An A1,List.filter_append,Bo];congr 1
      simp only[List.filter_cons,List.filter_nil];split<;>rfl)
     have GR:D (((ws.take q).filter λw=>decide (0<w.1.2) && decide (0<w.2.2)).length+(if decide (0<ws[q].1.2) && decide (0<ws[q].2.2)then 1 else 0)<=(ws.filter λw=>decide (0<w.1.2) && decide (0<w.2.2)).length):=qh (by rw[<-DD.o];exact(List.Sublist.filter _ (List.take_sublist _ _)).length_le);generalize ws[q]=x at *
     obtain⟨⟨J,E⟩,⟨M,C⟩⟩:=x;have hL:=At.link hE;obtain⟨⟨x0,x1,x2,x3⟩,hI⟩:=hL;have I6:=qh hI;have EP:=Ac wr _ x0;simp only at EP;generalize z (ws.take q)=Fq at *
     obtain⟨H,V,Y⟩:=Fq;clear hE hI;have EQ:W2.heap.size<=wr.heap.size:=by have:=(Al.1 AM.o).1;omega
     obtain⟨⟨GS,ER⟩,⟨I7,DE⟩,⟨B2,B4⟩,⟨I8,DF⟩,DG⟩:(0<=J/\J<n.length)/\(0<=E/\E<(aW (Q7 n J)).length)/\(1<=M/\M<n.length)/\(0<=C/\C<(aW (Q7 n M)).length)/\(J=0->E=0):=EO.o;have AZ:D (∀m3 l3,Yt n at_ (mC m).length m3 l3->0<=at_.getD M.toNat 0/\at_.getD M.toNat 0<(mC m3).length/\(at_.getD M.toNat 0).toNat∉l3/\(aW (Q7 (mC m3) (at_.getD M.toNat 0))).length=(aW (Q7 n M)).length-1):=qh (λm3 l3 h=>by rw[h.1];exact h.2.2 M.toNat (by omega) (by omega));have ES:D (J≠0->∀m3 l3,Yt n at_ (mC m).length m3 l3->0<=at_.getD J.toNat 0/\at_.getD J.toNat 0<(mC m3).length/\(at_.getD J.toNat 0).toNat∉l3/\(aW (Q7 (mC m3) (at_.getD J.toNat 0))).length=(aW (Q7 n J)).length-1):=qh (λh0 m3 l3 h=>by rw[h.1];exact h.2.2 J.toNat (by omega) (by omega));have BD:D (E<(aW (Q7 n J)).length/\C<(aW (Q7 n M)).length):=qh (⟨DE,DF⟩);have DH:D (E<=100000000/\C<=100000000):=qh (by have e1:=(AH.o.2.2.1 J.toNat).2;have e2:=(AH.o.2.2.1 M.toNat).2;have e3:Q7 n J=Qn n J.toNat:=rfl;have e4:Q7 n M=Qn n M.toNat:=rfl;rw[e3]at DE;rw[e4]at DF;omega);have I9:ws.length<=10000000:=by rw[D8.o];exact Au (Qfj n) BY.o.2
     have ET:D (z (ws.take (q+1))=Qam (at_.getD J.toNat 0) (at_.getD M.toNat 0) (1,T) (H,V,Y) (J,E) (M,C)):=qh (BV.o);have AD:D (∀W,Q1 (λc=>c=pb\/c∈S'.all) wo W->W.cell? ⟨bt,ot+J.toNat,N⟩=R (I Z (at_.getD J.toNat 0))/\Qqm (at_.getD J.toNat 0)):=qh (λW U=>C0.o W U J GS ER);have AN:D (∀W,Q1 (λc=>c=pb\/c∈S'.all) wo W->W.cell? ⟨bt,ot+M.toNat,N⟩=R (I Z (at_.getD M.toNat 0))/\Qqm (at_.getD M.toNat 0)):=qh (λW U=>C0.o W U M (by omega) B4);generalize at_.getD J.toNat 0=ka at *
     generalize at_.getD M.toNat 0=kb at *
     clear DE DF EO BV;go_upto_region 23 with fail
     refine Qq ?_;intro W5 EU;have HP:D (Qqg wo W2 S' pb po (A (R ⟨bw,ow,N⟩) ws.length AF) ws wr.heap.size (J,E) (M,C) (0,0) (0,0) (V,Y) W5 H S2 l2):=qh (by rw[EU];exact Qqg.start AR.o C2.o AM.o C3.o (by omega) EQ);clear EU AR C2 AM C3 x0 x1 x2 x3 EP EQ;obtain⟨⟨r0,r1⟩,⟨a0,A4⟩,⟨b0,A0⟩,-,-⟩:=HP.o.cells;obtain⟨fr,fx,fy⟩:=HP.o.free;simp only at r0 r1 a0 A4 b0 A0;obtain⟨tb,-⟩:=AN.o W5 HP.o.st.fr;have IA:J<at_.length:=by rw[AL.o];exact ER
     have IB:M<at_.length:=by rw[AL.o];exact B4
     have IC:0<=M:=by omega
     have B0:=qh (show∀(W:Bh) (m3:Qqp) (S3:MS) (l3:List Nat) (x y B1:Wd),Qam ka kb (1,T) (H,V,Y) (J,E) (M,C)=(m3,B1)->Qqg wo W2 S' pb po (A (R ⟨bw,ow,N⟩) ws.length AF) ws wr.heap.size (J,E) (M,C) x y B1 W m3 S3 l3->Yt n at_ (mC m).length m3 l3->l2.length<=l3.length+(if decide (0<E) && decide (0<C)then 1 else 0)->Qqm B1.1/\Qqm B1.2->
       ∃(q':Nat) (S2:MS) (l2:List Nat),q'<=ws.length/\I Z ((q:Int)+1)=I Z q'/\D (Qk wo S' pb po W (z (ws.take q')).1 S2 l2)/\D (Yy Qu W2 S2 W (A (R ⟨bw,ow,N⟩) ws.length AF) ws)/\D (W.heap[wo.heap.size]?=R (.cells #[I Z (z (ws.take q')).2.1,I Z (z (ws.take q')).2.2] 40 (0,0)))/\D (wo.heap.size∉S2.all)/\D (Yt n at_ (mC m).length (z (ws.take q')).1 l2)/\D ((ws.filter λw=>decide (0<w.1.2) && decide (0<w.2.2)).length<=l2.length+((ws.take q').filter λw=>decide (0<w.1.2) && decide (0<w.2.2)).length)/\D (Qqm (z (ws.take q')).2.1/\Qqm (z (ws.take q')).2.2)by
      intro W m3 S3 l3 x y B1 he hp hi hc GT;have e:z (ws.take (q+1))=(m3,B1):=ET.o.trans he;have h1:=DD.o;have h2:=DC.o;simp only at h1;refine⟨q+1,S3,l3,A1,by go_num, ?_,hp.fin, ?_,hp.sep.1, ?_, ?_, ?_⟩
      ·show Qk _ _ _ _ _ _ _ _
       rw[e];exact hp.st
      ·show _=_
       rw[e];exact hp.root
      ·show Yt _ _ _ _ _
       rw[e];exact hi
      ·show _<=_
       rw[h1];omega
      ·show _/\_
       rw[e];exact GT)
     have ID:ws.length-(q+1)<ws.length-q:=by omega
     clear BZ AP DA DB BC D9 ET DD EL hE;have GU:D ((mC m).length<=1500):=qh (A9.o);by_cases qa:J=0
     ·obtain rfl:J=0:=qa
      obtain rfl:E=0:=DG rfl;clear DG;by_cases qb:C=0
      ·obtain rfl:C=0:=qb
       go_wp2_with fail
       go_roundw;case rel=>exact B0.o _ _ _ _ _ _ (1,kb) rfl (HP.o.setR _ _) A5.o (by simp) ⟨by unfold Qqm;omega,(AN.o W5 HP.o.st.fr).2⟩
       case measure=>simp[Bv];omega
      ·have IE:(C==0)=false:=by simpa using qb
       have BR:0<C:=by omega
       have GV:C<=100000000:=DH.o.2;have IF:=qh qb;clear qb;obtain⟨e0,e1⟩:=GQ.o W5 HP.o.st.fr;have IG:w.heap.size<wo.heap.size:=by have:=A3.o.size;omega
       have IH:w.heap.size≠wo.heap.size:=by omega
       go_wp2_with fail
       refine Qq ?_;intro W6 AB;have K:D (Qqg wo W2 S' pb po (A (R ⟨bw,ow,N⟩) ws.length AF) ws wr.heap.size (0,0) (M,C) (0,0) (0,0) (1,T) W6 H S2 l2):=qh (by rw[AB];exact HP.o.setR _ _);clear AB HP r0 r1 a0 A4 b0 A0 e0 e1 fr fx fy tb;obtain⟨⟨r0,r1⟩,-,⟨b0,A0⟩,-,-⟩:=K.o.cells;simp only at r0 r1 b0 A0;obtain⟨tb,-⟩:=AN.o W6 K.o.st.fr;obtain⟨_,_,m0,-⟩:=K.o.st.mem.head;obtain⟨k0,k1,k2,k3⟩:=AZ.o _ _ A5.o;have A6:C.toNat-1<(aW (Q7 (mC H) kb)).length:=by rw[k3];have:=BD.o.2;omega
       have BE:kb<((mC H).length:Int):=k1;obtain⟨bq,oq,cq,z1,⟨z2,z3⟩,z4,⟨O,z6⟩,z7,z8⟩:=K.o.word (i:=kb) (by omega) k2 A6;have BF:C-1<((aW (Q7 (mC H) kb)).length:Int):=by omega
       have AC:=qh z8;have BG:=qh O;clear z8 O k1 k2 k3 A6;have A9:D ((C-1).toNat=C.toNat-1):=qh (by omega);have GW:C≠0:=by omega
       have AA:IntKind.i64.wrap (C-1)=C-1:=by simp only[Cx];omega
       have BH:1<=C:=by omega
       have BI:0<=C-1:=by omega
       have BJ:C<=((aW (Q7 (mC H) kb)).length:Int):=by omega
       go_still_tail 17,(by kernel_rfl)
       clear AA;go_wp2_with fail
       go_roundw;case rel=>exact B0.o _ (Qh H kb (C-1) (1,T)) S2 l2 (0,0) (0,0) (1,T) (by unfold Qam;simp[GW]) (by unfold Qh;rw[A9.o];exact(AC.o 1 T (by unfold Qqm;omega) DU.o).drew) (A5.o.set (AZ.o _ _ A5.o).2.2.1) (by simp) ⟨by unfold Qqm;omega,DU.o⟩
       case measure=>simp[Bv];omega
     ·have II:(J==0)=false:=by simpa using qa
      have C4:=qh (ES.o qa);have C5:=qh qa;have IJ:E<=100000000:=DH.o.1;have GV:C<=100000000:=DH.o.2;obtain⟨ta,-⟩:=AD.o W5 HP.o.st.fr;obtain⟨-,-,-,⟨x0,x1⟩,⟨f,t⟩⟩:=HP.o.cells;simp only at x0 x1 f t;have C6:D (Qqm 1/\Qqm 2):=qh (by unfold Qqm;omega);clear qa DG ES;by_cases qc:0<E
      ·by_cases qd:0<C
       ·have C7:decide (0<E)=true:=by simpa using qc
        have C8:decide (0<C)=true:=by simpa using qd
        obtain⟨v,l3,rfl⟩:∃v l3,l2=v::l3:=by
         have h1:=DC.o;have h2:=GR.o;simp only[C7,C8,Bool.and_self,if_true]at h2;match l2,(show 0<l2.length by omega)with
         |v::l3,_=>exact⟨v,l3,rfl⟩
        have C9:D (mF H=(v:Int)/\Yt n at_ (mC m).length (Qv H) l3):=qh (⟨A5.o.var.2.1,A5.o.var.1⟩);have EV:D (Qqm (v:Int)):=qh (by have h1:=A5.o.var.2.2;have:=GU.o;unfold Qqm;omega);have GX:D ((v::l3).length<=l3.length+(if decide (0<E) && decide (0<C)then 1 else 0)):=qh (by simp[C7,C8]);have BK:D (Qam ka kb (1,T) (H,V,Y) (J,E) (M,C)=(Qh (Qh (Qv H) ka (E-1) (2,(v:Int))) kb (C-1) (2,(v:Int)),(V,Y))):=qh (by unfold Qam;simp[C5.o,C7,C8,C9.o.1]);clear C7 C8;go_wp2_with((go_at_call 225;(with_reducible refine(Q9s HP.o.st).mono ?_);rintro e w3 ⟨rfl,hs,U⟩;have CA:=qh (HP.o.newv hs U);clear hs U HP;obtain⟨⟨r0,r1⟩,⟨a0,A4⟩,⟨b0,A0⟩,⟨x0,x1⟩,⟨f,t⟩⟩:=CA.o.cells;simp only at r0 r1 a0 A4 b0 A0 x0 x1 f t;obtain⟨fr,fx,fy⟩:=CA.o.free))
        refine Qq ?_;intro W6 AB;have K:D (Qqg wo W2 S' pb po (A (R ⟨bw,ow,N⟩) ws.length AF) ws wr.heap.size (J,E) (M,C) (2,(v:Int)) (2,(v:Int)) (V,Y) W6 (Qv H) (S2.put v []) l3):=qh (by rw[AB];exact(CA.o.setX _ _).setY _ _);clear AB CA r0 r1 a0 A4 b0 A0 x0 x1 f t fr fx fy ta tb;obtain⟨⟨r0,r1⟩,⟨a0,A4⟩,⟨b0,A0⟩,⟨x0,x1⟩,⟨f,t⟩⟩:=K.o.cells;simp only at r0 r1 a0 A4 b0 A0 x0 x1 f t;obtain⟨ta,-⟩:=AD.o W6 K.o.st.fr;obtain⟨tb,-⟩:=AN.o W6 K.o.st.fr;obtain⟨_,_,m0,-⟩:=K.o.st.mem.head;obtain⟨k0,k1,k2,k3⟩:=C4.o _ _ C9.o.2;have A6:E.toNat-1<(aW (Q7 (mC (Qv H)) ka)).length:=by rw[k3];have:=BD.o.1;omega
        have BE:ka<((mC (Qv H)).length:Int):=k1;obtain⟨bq,oq,cq,z1,⟨z2,z3⟩,z4,⟨O,z6⟩,z7,z8⟩:=K.o.word (i:=ka) (by omega) k2 A6;have BF:E-1<((aW (Q7 (mC (Qv H)) ka)).length:Int):=by omega
        have AC:=qh z8;have BG:=qh O;have CB:bq≠wr.heap.size:=λe=>K.o.sep.2 0 (by omega) (e▸O);have CC:bq≠wr.heap.size+1:=λe=>K.o.sep.2 1 (by omega) (e▸O);have CD:bq≠wr.heap.size+1+1:=λe=>K.o.sep.2 2 (by omega) (e▸O);have CE:bq≠wr.heap.size+1+1+1:=λe=>K.o.sep.2 3 (by omega) (e▸O);clear z8 O k1 k2 k3 A6;have A9:D ((E-1).toNat=E.toNat-1):=qh (by omega);have AA:IntKind.i64.wrap (E-1)=E-1:=by simp only[Cx];omega
        have BH:1<=E:=by omega
        have BI:0<=E-1:=by omega
        have BJ:E<=((aW (Q7 (mC (Qv H)) ka)).length:Int):=by omega
        (try go_wp2_with fail)
        go_still_tail 17,(by kernel_rfl)
        clear AA;go_wp2_with fail
        refine Qq ?_;intro W7 EW;have AG:D (Qqg wo W2 S' pb po (A (R ⟨bw,ow,N⟩) ws.length AF) ws wr.heap.size (J,E) (M,C) (2,(v:Int)) (2,(v:Int)) (V,Y) W7 (Qh (Qv H) ka (E-1) (2,(v:Int))) (S2.put v []) l3):=qh (by rw[EW];unfold Qh;rw[A9.o];exact(AC.o 2 v C6.o.2 EV.o).drew);have DI:D (Yt n at_ (mC m).length (Qh (Qv H) ka (E-1) (2,(v:Int))) l3):=qh (C9.o.2.set (C4.o _ _ C9.o.2).2.2.1);clear EW K AC BG A9 r0 r1 a0 A4 b0 A0 x0 x1 f t ta tb m0 z1 z2 z3 z4 z6 z7 BF BJ BH BI BE k0 CB CC CD CE;generalize Qh (Qv H) ka (E-1) (2,(v:Int))=m7 at *
        obtain⟨⟨r0,r1⟩,⟨a0,A4⟩,⟨b0,A0⟩,⟨x0,x1⟩,⟨f,t⟩⟩:=AG.o.cells;simp only at r0 r1 a0 A4 b0 A0 x0 x1 f t;obtain⟨ta,-⟩:=AD.o W7 AG.o.st.fr;obtain⟨tb,-⟩:=AN.o W7 AG.o.st.fr;obtain⟨_,_,m0,-⟩:=AG.o.st.mem.head;obtain⟨k0,k1,k2,k3⟩:=AZ.o _ _ DI.o;have A6:C.toNat-1<(aW (Q7 (mC m7) kb)).length:=by rw[k3];have:=BD.o.2;omega
        have BE:kb<((mC m7).length:Int):=k1;obtain⟨bq,oq,cq,z1,⟨z2,z3⟩,z4,⟨O,z6⟩,z7,z8⟩:=AG.o.word (i:=kb) (by omega) k2 A6;have BF:C-1<((aW (Q7 (mC m7) kb)).length:Int):=by omega
        have AC:=qh z8;have BG:=qh O;have CB:bq≠wr.heap.size:=λe=>AG.o.sep.2 0 (by omega) (e▸O);have CC:bq≠wr.heap.size+1:=λe=>AG.o.sep.2 1 (by omega) (e▸O);have CD:bq≠wr.heap.size+1+1:=λe=>AG.o.sep.2 2 (by omega) (e▸O);have CE:bq≠wr.heap.size+1+1+1:=λe=>AG.o.sep.2 3 (by omega) (e▸O);clear z8 O k1 k2 k3 A6;have A9:D ((C-1).toNat=C.toNat-1):=qh (by omega);have AA:IntKind.i64.wrap (C-1)=C-1:=by simp only[Cx];omega
        have BH:1<=C:=by omega
        have BI:0<=C-1:=by omega
        have BJ:C<=((aW (Q7 (mC m7) kb)).length:Int):=by omega
        (try go_wp2_with fail)
        go_still_tail 17,(by kernel_rfl)
        clear AA;go_wp2_with fail
        go_roundw;case rel=>exact B0.o _ (Qh m7 kb (C-1) (2,(v:Int))) _ l3 (2,(v:Int)) (2,(v:Int)) (V,Y) BK.o (by unfold Qh;rw[A9.o];exact(AC.o 2 v C6.o.2 EV.o).drew) (DI.o.set (AZ.o _ _ DI.o).2.2.1) GX.o AY.o
        case measure=>simp[Bv];omega
       ·obtain rfl:C=0:=by omega
        have BK:D (Qam ka kb (1,T) (H,V,Y) (J,E) (M,0)=(Qh H ka (E-1) (1,kb),(V,Y))):=qh (by unfold Qam;simp[C5.o,qc]);go_wp2_with fail
        refine Qq ?_;intro W6 AB;have K:D (Qqg wo W2 S' pb po (A (R ⟨bw,ow,N⟩) ws.length AF) ws wr.heap.size (J,E) (M,0) (1,kb) (0,0) (V,Y) W6 H S2 l2):=qh (by rw[AB];exact HP.o.setX _ _);have DJ:=qh (AN.o W5 HP.o.st.fr).2;clear AB HP r0 r1 a0 A4 b0 A0 x0 x1 f t fr fx fy ta tb;obtain⟨⟨r0,r1⟩,⟨a0,A4⟩,⟨b0,A0⟩,⟨x0,x1⟩,⟨f,t⟩⟩:=K.o.cells;simp only at r0 r1 a0 A4 b0 A0 x0 x1 f t;obtain⟨ta,-⟩:=AD.o W6 K.o.st.fr;obtain⟨tb,-⟩:=AN.o W6 K.o.st.fr;obtain⟨_,_,m0,-⟩:=K.o.st.mem.head;obtain⟨k0,k1,k2,k3⟩:=C4.o _ _ A5.o;have A6:E.toNat-1<(aW (Q7 (mC H) ka)).length:=by rw[k3];have:=BD.o.1;omega
        have BE:ka<((mC H).length:Int):=k1;obtain⟨bq,oq,cq,z1,⟨z2,z3⟩,z4,⟨O,z6⟩,z7,z8⟩:=K.o.word (i:=ka) (by omega) k2 A6;have BF:E-1<((aW (Q7 (mC H) ka)).length:Int):=by omega
        have AC:=qh z8;have BG:=qh O;have CB:bq≠wr.heap.size:=λe=>K.o.sep.2 0 (by omega) (e▸O);have CC:bq≠wr.heap.size+1:=λe=>K.o.sep.2 1 (by omega) (e▸O);have CD:bq≠wr.heap.size+1+1:=λe=>K.o.sep.2 2 (by omega) (e▸O);have CE:bq≠wr.heap.size+1+1+1:=λe=>K.o.sep.2 3 (by omega) (e▸O);clear z8 O k1 k2 k3 A6;have A9:D ((E-1).toNat=E.toNat-1):=qh (by omega);have AA:IntKind.i64.wrap (E-1)=E-1:=by simp only[Cx];omega
        have BH:1<=E:=by omega
        have BI:0<=E-1:=by omega
        have BJ:E<=((aW (Q7 (mC H) ka)).length:Int):=by omega
        (try go_wp2_with fail)
        go_still_tail 17,(by kernel_rfl)
        clear AA;go_wp2_with fail
        go_roundw;case rel=>exact B0.o _ (Qh H ka (E-1) (1,kb)) _ l2 (1,kb) (0,0) (V,Y) BK.o (by unfold Qh;rw[A9.o];exact(AC.o 1 kb C6.o.1 DJ.o).drew) (A5.o.set (C4.o _ _ A5.o).2.2.1) (by simp) AY.o
        case measure=>simp[Bv];omega
      ·obtain rfl:E=0:=by omega
       by_cases qd:0<C
       ·have BK:D (Qam ka kb (1,T) (H,V,Y) (J,0) (M,C)=(Qh H kb (C-1) (1,ka),(V,Y))):=qh (by unfold Qam;simp[C5.o,qd])
        go_wp2_with fail
        refine Qq ?_;intro W6 AB;have K:D (Qqg wo W2 S' pb po (A (R ⟨bw,ow,N⟩) ws.length AF) ws wr.heap.size (J,0) (M,C) (0,0) (1,ka) (V,Y) W6 H S2 l2):=qh (by rw[AB];exact HP.o.setY _ _);have DJ:=qh (AD.o W5 HP.o.st.fr).2;clear AB HP r0 r1 a0 A4 b0 A0 x0 x1 f t fr fx fy ta tb;obtain⟨⟨r0,r1⟩,⟨a0,A4⟩,⟨b0,A0⟩,⟨x0,x1⟩,⟨f,t⟩⟩:=K.o.cells;simp only at r0 r1 a0 A4 b0 A0 x0 x1 f t;obtain⟨ta,-⟩:=AD.o W6 K.o.st.fr;obtain⟨tb,-⟩:=AN.o W6 K.o.st.fr;obtain⟨_,_,m0,-⟩:=K.o.st.mem.head;obtain⟨k0,k1,k2,k3⟩:=AZ.o _ _ A5.o;have A6:C.toNat-1<(aW (Q7 (mC H) kb)).length:=by rw[k3];have:=BD.o.2;omega
        have BE:kb<((mC H).length:Int):=k1;obtain⟨bq,oq,cq,z1,⟨z2,z3⟩,z4,⟨O,z6⟩,z7,z8⟩:=K.o.word (i:=kb) (by omega) k2 A6;have BF:C-1<((aW (Q7 (mC H) kb)).length:Int):=by omega
        have AC:=qh z8;have BG:=qh O;have CB:bq≠wr.heap.size:=λe=>K.o.sep.2 0 (by omega) (e▸O);have CC:bq≠wr.heap.size+1:=λe=>K.o.sep.2 1 (by omega) (e▸O);have CD:bq≠wr.heap.size+1+1:=λe=>K.o.sep.2 2 (by omega) (e▸O);have CE:bq≠wr.heap.size+1+1+1:=λe=>K.o.sep.2 3 (by omega) (e▸O);clear z8 O k1 k2 k3 A6;have A9:D ((C-1).toNat=C.toNat-1):=qh (by omega);have AA:IntKind.i64.wrap (C-1)=C-1:=by simp only[Cx];omega
        have BH:1<=C:=by omega
        have BI:0<=C-1:=by omega
        have BJ:C<=((aW (Q7 (mC H) kb)).length:Int):=by omega
        (try go_wp2_with fail)
        go_still_tail 17,(by kernel_rfl)
        clear AA;go_wp2_with fail
        go_roundw;case rel=>exact B0.o _ (Qh H kb (C-1) (1,ka)) _ l2 (0,0) (1,ka) (V,Y) BK.o (by unfold Qh;rw[A9.o];exact(AC.o 1 ka C6.o.1 DJ.o).drew) (A5.o.set (AZ.o _ _ A5.o).2.2.1) (by simp) AY.o
        case measure=>simp[Bv];omega
       ·obtain rfl:C=0:=by omega
        go_wp2_with fail
        go_roundw;case rel=>exact B0.o _ H S2 l2 (0,0) (0,0) (V,Y) (by unfold Qam;simp[C5.o]) HP.o A5.o (by simp) AY.o
        case measure=>simp[Bv];omega
    ·rename Bh=>we
     have EX:q=ws.length:=by omega
     have EY:ws.take q=ws:=by rw[EX];exact Hu
     rw[EY]at AR AM AY;have IK:¬(q:Int)<ws.length:=by omega
     have DK:z ws=ws.foldl (Y7 at_ (1,T)) (m1,(0,0)):=by rw[C1.o]
     rw[<-DK]at BB;have GY:D ((mX (z ws).1).length<=1000):=qh (by
      rw[DK,Qgy]
      ·have e:mX m1=mX m:=GH.o
       rw[e];exact FD.o
      ·intro s w
       unfold Y7;simp only;repeat' split
       all_goals rfl)
     generalize z ws=Fq at *
     obtain⟨H,V,Y⟩:=Fq;have EZ:=qh (DV.o we (GI.o we AR.o.fr));clear EX EY DK C2 DA DB BC D9 BZ AP EL A5 DC EH EN EI C1 A1;go_upto_region 41 with fail
     go_upto_region 42 with((go_at_call 226;(with_reducible refine(Qm8 we nb no n EZ.o BY.o.1 GJ.o).mono ?_);rintro e W4 ⟨GZ,rfl,ho,B⟩;have BU:=qh ho;have DL:=qh B;clear ho B))
     have F1:D (∀p∈Yd n,(0<=p.1/\p.1<n.length)/\(0<=p.2/\p.2<n.length)):=qh (λp hp=>Q9d DT.o hp);have H0:(Yd n).length<=600:=by have:=Q14 n n.length;rw[<-Q1r]at this;have:(Yd n).length<=n.length:=this;omega
     have CF:D (Yy Q4 we S2 W4 GZ (Yd n)):=qh (Yy.ofOwn BU.o rfl (Aj _) λb B=>AR.o.mem.lt b (Aa _ B));have AQ:=qh (AR.o.below DL.o);have BQ:D (W4.heap[wo.heap.size]?=R (.cells #[I Z V,I Z Y] 40 (0,0))):=qh ((DL.o.block _ (Al.1 AM.o).1).trans AM.o);have IL:wo.heap.size<we.heap.size:=(Al.1 AM.o).1;clear AR AM BU DL EZ;obtain⟨P,F2⟩:∃x,x=Yd n:=⟨_,rfl⟩;rw[<-F2]at BB F1 CF H0;clear F2;obtain⟨H1,H2,rfl⟩:=CF.o.form;obtain⟨G0,F5⟩:∃F:List Wd->Qqp,F=λq=>q.foldl (λm p=>Yu m (at_.getD p.1.toNat 0) (at_.getD p.2.toNat 0)) H:=⟨_,rfl⟩;have CG:=qh F5;have DM:D (V5 n by_ (1,T) m=(G0 P,V,Y)):=qh (by rw[CG.o];exact BB.o);have H3:D (∀r,(mX (G0 (P.take r))).length<=1600):=qh (λr=>by rw[CG.o];simp only;rw[Qdb (λs p=>Q54 _ _ _)];have:=List.length_take_le r P;have:=GY.o;have:(P.take r).length<=P.length:=List.length_take_le' r P;omega);rename Bh=>wq
     clear F5 BB;go_upto_region 43 with fail
     go_loopw [22] (λi wx=>∃(r:Nat) (S3:MS),r<=P.length/\i=I Z r/\D (Qk wo S' pb po wx (G0 (P.take r)) S3 l2)/\D (Yy Q4 we S3 wx (A H1 P.length H2) P)/\D (wx.heap[wo.heap.size]?=R (.cells #[I Z V,I Z Y] 40 (0,0)))/\D (wo.heap.size∉S3.all)) (λi _=>P.length-(Bv i).toNat);case atStart=>
      have e:G0 (P.take 0)=H:=by rw[CG.o,Hq];rfl
      refine⟨0,S2,Ak _,rfl, ?_,CF.o,BQ.o,C3.o⟩;show Qk _ _ _ _ _ _ _ _;rw[e];exact AQ.o
     case round=>
      obtain⟨r,S3,hr,rfl,AO,F6,CH,F7⟩:=hrel;clear AQ BQ CF C3;by_cases A1:r<P.length
      ·obtain⟨bp,op,rfl,hE⟩:=Rd.elem F6.o.rd r A1
       have hE:At Q4 wr bp (op+r * 2) P[r]:=hE;have H4:=qh (F1.o P[r] (As A1));have AE:D (G0 (P.take (r+1))=Yu (G0 (P.take r)) (at_.getD P[r].1.toNat 0) (at_.getD P[r].2.toNat 0)):=qh (by rw[CG.o];simp only;rw[An A1,De];rfl);have H5:=qh (H3.o r);generalize P[r]=x at *
       obtain⟨x1,x2⟩:=x;obtain⟨c1,c2,-,-⟩:=hE.word;obtain⟨⟨H6,DN⟩,⟨H7,DO⟩⟩:(0<=x1/\x1<n.length)/\(0<=x2/\x2<n.length):=H4.o;obtain⟨t1,i1⟩:=C0.o wr AO.o.fr x1 H6 DN;obtain⟨t2,i2⟩:=C0.o wr AO.o.fr x2 H7 DO;have g1:x1<at_.length:=by rw[AL.o];exact DN
       have g2:x2<at_.length:=by rw[AL.o];exact DO
       have HI:=qh (And.intro i1 i2);have AE:D (G0 (P.take (r+1))=Yu (G0 (P.take r)) (at_.getD x1.toNat 0) (at_.getD x2.toNat 0)):=qh (AE.o);generalize at_.getD x1.toNat 0=k1 at *
       generalize at_.getD x2.toNat 0=k2 at *
       generalize G0 (P.take r)=mr at *
       have H8:=qh AO.o.drew;clear hE i1 i2 DN DO;go_wp2_with fail
       go_still_tail 17,(by kernel_rfl)
       go_wp2_with((go_at_call 190;(with_reducible refine(Qcm H8.o k1 k2 HI.o.1 HI.o.2 (Au H5.o (by decide))).mono ?_);rintro e w5 ⟨rfl,S5,hs,U,F8⟩;have H9:=qh hs;have F9:=qh U;have FA:=qh F8;clear hs U F8))
       go_roundw;case rel=>
        have FB:∀c,(c=pb\/c∈S3.Fx)->c=pb\/c∈S3.all:=λc hc=>hc.imp id λe=>Aa _ (Af _ e);refine⟨r+1,S5,by omega,by go_num, ?_, ?_, ?_, ?_⟩
        ·show Qk _ _ _ _ _ _ _ _
         rw[AE.o];exact H9.o
        ·show Yy _ _ _ _ _ _
         refine(F6.o.below (Ai _ _).drew).step FA.o (λc hc=>(FB c hc).imp (λe=>by have:=AO.o.pl;omega) id) F9.o.2.2.2
        ·show _=_
         rw[FA.o.block _ (Al.1 CH.o).1 (λe=>(FB _ e).elim (λe=>by have:=AO.o.pl;omega) F7.o)];exact CH.o
        ·show _∉_
         exact λL=>(F9.o.2.2.2 _ L).elim F7.o λe=>by have:=(Al.1 CH.o).1;simp at e;omega
       case measure=>simp[Bv];omega
      ·have FC:r=P.length:=by omega
       have IM:¬(r:Int)<P.length:=by omega
       have HB:D (G0 (P.take r)=G0 P):=qh (by rw[FC,Hu]);clear FC A1;obtain⟨⟨r0,r1⟩,-⟩:=Za CH.o;have DP:=qh (GP.o wr AO.o.fr);obtain⟨⟨s0,s1⟩,IN⟩:=Za DP.o;have IP:w.heap.size+1<wr.heap.size:=(Al.1 DP.o).1;go_wp2_with fail
       obtain⟨⟨s0,s1⟩,-⟩:=Za (Vm DP.o (I Z V) (I Z Y));refine bodyPost_ret (v:=.agg #[I Z V,I Z Y]) (by simp[results,results188,go_sem,s0,s1]) rfl ?_;have h0:Qk w S pb po wr (G0 P) S3 l2:=((Qk.start HM.o CK.o).below CN.o).thru (A3.o.thru (by rw[<-HB.o];exact AO.o));refine⟨by rw[DM.o],by rw[DM.o];exact AY.o.2,S3,l2, ?_⟩;rw[DM.o];refine h0.other (V1 (X:=λc=>c=w.heap.size+1) (Q1.refl _ _) rfl _ _) (λc hc=> ?_);subst hc;refine⟨λL=> ?_,by omega⟩;rcases Aq.1 L with e|L
       ·exact AX.o.1 (e▸Ae)
       ·rcases AO.o.fresh.2.2.2 _ L with e|e
        ·exact AX.o.2 e
        ·have:=A3.o.size;omega
end Go.Proofs.YthbpkpnioaniiaaGreat
