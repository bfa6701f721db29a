import Derived.Test.YtcjngpfigpglfaaGreatDoorP10
set_option maxHeartbeats 0
set_option maxRecDepth 100000
set_option linter.all false
namespace Go.Proofs.YtcjngpfigpglfaaGreatDoor
open Go.RowKit Go.Proofs.Tryz
open Go.Value renaming int->I,slice->A
open Go.IntKind renaming i64->Z
open Option renaming none->N,some->R
open OC(oC)
open OR(oR)
open JN(jN)
open Go renaming World->Bh,heap_alloc_new->Bg
open Go.IntKind renaming wrap_i64->Db
open Go.RowKit renaming Below->Bp,intOf->By
open List renaming length_append->Bo,take_zero->Hs,foldl_append->Dj,take_length->Hi
open Nat renaming add_sub_cancel->Ih,mul_one->Cc
theorem Je.below{e B w w' S v xs}(h:Je e B S w v xs)(C:Bp w w w'):Je e B S w' v xs:=by
 obtain⟨F,o,n,r⟩:=h;exact⟨F,o.kept λb E=>C.block b (o.lt b E),n,r⟩
theorem Qlx{n x m j}(h:1<=j):Jg n x m j=Qi (Jg n x m (j-1)) (Q30 (Q9 n j) x):=by
 obtain⟨i,rfl⟩:∃i,j=i+1:=⟨j-1,by omega⟩;rfl
theorem Qrq{n x m j}(h:1<=j):Qxs n x m j=Qxs n x m (j-1)++ [mF (Jg n x m (j-1))]:=by
 obtain⟨i,rfl⟩:∃i,j=i+1:=⟨j-1,by omega⟩;exact Qsw
theorem Q1.more{X Y a b c}(h:Q1 X a b)(k:Q1 Y b c)(E:∀x,Y x->X x\/a<=x):Q1 X a c:=
 ⟨k.os.trans h.os,k.tape.trans h.tape,k.output.trans h.output,Au h.size k.size,λx B C=>(k.block x (Ap B h.size) λe=>(E x e).elim C λe=>by omega).trans (h.block x B C)⟩
def zr(r:Nat):List Wd:=List.replicate r (0,0)
theorem Qo4(r):zr (r+1)=zr r++ [(0,0)]:=List.replicate_succ'
def Zs(w:Bh)(g:Nat)(k l v:Int)(p:Option Addr)(n c:Nat):Prop:=(w,g,0,k)/\(w,g,1,l)/\(w,g,2,v)/\(w,g,3,A p n c)/\∀u,w.cell? (g,4)=R u->w.cell? (g,4)=R u
def Qwv{w g k l v p n c u T}(h:w.heap[g]?=R (.cells #[k,l,v,A p n c,u] T)):Zs w g k l v p n c:=
 ⟨Q6 h rfl,Q6 h rfl,Q6 h rfl,Q6 h rfl,λ_ h=>h⟩
theorem Qsd(A8:Bh)(w)(B2:Bp A8 A8 w)(pb po m S)(h:Zh w pb po m S)(hS:∀b∈pb::S.all,A8<=b)(l)(hl:Yq m l)(nb no)(n:Qy0)(hn:At Jl A8 nb no n)(CI:Yd n=true)(by_ U)(DQ:0<=by_/\by_<=8)(CJ:Qyn U)(DR:n.length+(Zg n).length<=l+1)(hK:(mC m).length<=1500)(hX:(mX m).length<=1000):
  Calls prog 239 #[.pointer (R ⟨pb,po,N⟩),.pointer (R ⟨nb,no,N⟩),I Z by_,.agg #[I Z 1,I Z U]] w λe w'=>∃S' l',e=.returned (.agg #[I Z (V8 n by_ (1,U) m).2.1,I Z (V8 n by_ (1,U) m).2.2])/\Qyn (V8 n by_ (1,U) m).2.2/\Qn w S pb po w' (V8 n by_ (1,U) m).1 S' l':=by
 have DS:=Yl CI;have AH:=qh DS;have DT:=qh CI;have HN:=qh hn;have HC:=qh B2;have HM:=qh h;have CK:=qh hl;have HD:=qh hS;have DU:=qh CJ;have CL:=qh DR;have A9:=qh hK;have FD:=qh hX;have HE:=qh DQ;obtain⟨HF,HH⟩:=DQ;obtain⟨⟨HJ,FE⟩,-,-,-⟩:=DS;have HK:=CJ.bd;have DV:=D (∀W,Bp A8 A8 W->At Jl W nb no n) (λW B=>hn.kb B);have CM:=D (∀W,Q1 (λc=>c=pb\/c∈S.all) w W->Bp A8 A8 W) (λW Y=>B2.trans (Y.below B2.size λc hc=>hS c (hc.elim (λe=>e▸Ae) (Aa _))));obtain⟨np,nc,DW,-,nm,DX⟩:=hn.net;have FF:=D (∀W,Bp A8 A8 W->(W,nb,no,A np n nc)/\Rd (.slice Q4) W [A np n nc] n) (λW B=>⟨jC B DW,DX.kb B⟩);clear hn CI h hl hS CJ DR hK hX B2 DW DX;go_enter func239,ntmps239;go_upto_region 1 with fail
 refine Qp λW0 BL=> ?_;have CN:=D (w,W0) (by rw[BL];go_grown);have FG:W0.heap.size=w+2:=by rw[BL];simp
 have CO:=D (W0.heap[w.heap.size]?=R (.cells #[I Z 1,I Z U] 40 (0,0))/\W0.heap[w.heap.size+1]?=R (.cells #[(),()] 40 (0,0))) (by rw[BL];exact Jt w _ _ _ _);have AS:=D (Zh W0 pb po m S) (HM.o.kept CN);have FH:=qh (Qn.start AS CK);clear BL;go_upto_region 2 with fail
 refine Qp λW1 CP=> ?_;have DY:=D (Qn W0 S pb po W1 m S l) (by rw[CP];exact FH.o.below (Below.alloc (Ai _ _) (Aj _) _));have AD:=D (Je .int W0 S W1 (A (R ⟨w+2,0,N⟩) 1 1) (Qxs n by_ m 0)) (by rw[CP,<-FG];exact⟨[W0.heap.size],Qbi (Bg W0 _) (by unfold Qyn;omega),by simp,λb B=>by rw[Bb.1 B];exact⟨Aj _,λL=>Nat.lt_irrefl _ (AS.o.lt _ (Aa _ L))⟩⟩);clear CP;go_upto_region 3 with fail
 go_loopw [9,10] (λu i wr=>∃(j:Nat) (S':MS),1<=j/\j<=n/\i=I Z j/\Hd (Qn W0 S pb po wr (Jg n by_ m (j-1)) S' (l.drop (j-1)))/\Hd (Je .int W0 S' wr u (Qxs n by_ m (j-1)))) (λ_ i _=>n.length-(By i).toNat);case atStart=>exact⟨1,S,by omega,FE,by go_num,DY.o,AD.o⟩
 rename Bh=>wo
 obtain⟨j,S',CQ,hj,rfl,HS,HA⟩:=hrel;obtain⟨pa,ca,rfl⟩:=HA.o.form;have CR:=D (Q1 (λc=>c=pb\/c∈S.all) w wo) (Q1.trans (Ay CN) HS.o.fr);obtain⟨c0,B3⟩:=FF.o wo (CM.o wo CR);have FI:=qh B3;clear B3 DY AD;by_cases A1:j<n
 ·obtain⟨bx,ox,rfl,hx⟩:=Rd.elem FI j A1
  have hx:At Q4 wo bx (ox+j * 5) n[j]:=hx;have CS:Q9 n j=n[j]:=Qy A1;have BM:=AH.o.2.2.1 j;have CT:=AH.o.2.1 j A1;rw[CS]at BM CT;generalize n[j]=x at *
  obtain⟨k,le,v,d,ws⟩:=x;simp only[aD,aW]at BM;obtain⟨pd,cd,pw,cw,⟨y0,y1,y2,y3,y4⟩,iy,⟨-,-,B3⟩,-⟩:=hx.agent;have CU:=qh iy;have DZ:=qh B3;have E0:=qh CT;have FJ:=qh CS;have HX:=qh hx;have CV:=qh BM;clear iy B3 CT CS hx BM;go_upto_region 6 with fail
  have B4:=Ac wo _ y0;simp only at B4;have E1:=D (d.length<=100000000) (by have:=CV.o.1;omega);have FK:=qh (DZ.o.kb (w':=(wo.alloc (.cells #[(),(),(),jN,jN] 172)).drew) (by go_grown));have FL:=qh (DZ.o.kb (w':=wo.drew) (by go_grown));have FM:=D (Q2s ((wo.alloc (.cells #[(),(),(),jN,jN] 172)).drew) wo 172) (Bg wo _);go_cut [12] (λx wx=>∃(g:Nat) (p1:Option Addr) (c1:Nat),x=.pointer (R ⟨g,0,N⟩)/\Hd (wx.heap[g]?=R (.cells #[I Z k,I Z le,I Z v,A p1 d c1,jN] 172 (0,0)))/\Hd (wo<=g)/\Hd (∃G,Ow (.slice .int) wx [A p1 d c1] d G/\G.Nodup/\∀b∈G,wo<=b/\b≠g)/\Hd (wo,wx))
  case first=>
   go_region_held3(λw'=>(w',bx,ox+j * 5,I Z k)/\(w',bx,ox+j * 5+1,I Z le)/\(w',bx,ox+j * 5+2,I Z v)/\(w',bx,ox+j * 5+3,A pd d cd))
    (first|(with_reducible first|exact Q8a A2 y0 y1 y2 y3|exact Q8a (A2.o.alloc A2.o.size _) y0 y1 y2 y3|exact Q8a (((((A2.o.setCell (Aj _) _).setCell (Aj _) _).setCell (Aj _) _).setCell (Aj _) _).setCell (Aj _) _) y0 y1 y2 y3|exact Q8a ((((((A2.o.alloc A2.o.size _).setCell (A2.o.size) _).setCell (A2.o.size) _).setCell (A2.o.size) _).setCell (A2.o.size) _).setCell (A2.o.size) _) y0 y1 y2 y3)|(refine Q8a (w:=wo) ?_ y0 y1 y2 y3;go_grown)|fail)
    (first|((go_at_call 144;(with_reducible refine(Q3k ((wo.alloc (.cells #[(),(),(),jN,jN] 172)).drew) d FK E1).mono ?_);rintro e w1 ⟨v1,rfl,ho,B⟩;obtain⟨p1,CW,rfl,-,-⟩:=ho.form;have A2:=D (wo,w1) (Q0 (by go_grown) B);have CX:=qh (Q2s.kept FM B);have HL:=λq=>CX.o.blk.free q;obtain⟨r0,r1,r2,r3,r4⟩:=CX.o.cells;have B5:=qh ho;clear ho B))|((go_at_call 144;(with_reducible refine(Q3k wo.drew d FL E1).mono ?_);rintro e w1 ⟨v1,rfl,ho,B⟩;obtain⟨p1,CW,rfl,-,-⟩:=ho.form;have A2:=D (wo,w1) (Q0 (by go_grown) B);have B5:=qh ho;clear ho B))|fail)
   ·go_wp2_with fail
    go_meet;obtain⟨G,og,ng,bg⟩:=B5.o.ow rfl;exact⟨w1,p1,CW,rfl,Bg w1 _,A2.o.size,⟨G,og.kept λb B=>Az _ _ _ (og.lt b B),ng,λb B=>⟨by have:=(bg b B).1;simpa using this,λe=>by have:=og.lt b B;omega⟩⟩,A2.o.alloc A2.o.size _⟩
   go_wp2_with fail
   go_meet;obtain⟨G,og,ng,bg⟩:=B5.o.ow rfl;have E2:∀b∈G,b≠wo.heap.size:=λb B e=>by have:=(bg b B).1;simp at this;omega
   exact⟨wo,p1,CW,rfl,Q2u CX _ _ _ _ _,Aj _,⟨G,og.frame (Q1y (X:=λc=>c=wo.heap.size) (Q1.refl _ w1) (o:=0) (p:=1) (q:=2) (r:=3) (s:=4) rfl _ _ _ _ _) λb B=>⟨og.lt b B,E2 b B⟩,ng,λb B=>⟨by have:=(bg b B).1;simp at this;omega,E2 b B⟩⟩,(((((A2.o.setCell (Aj _) _).setCell (Aj _) _).setCell (Aj _) _).setCell (Aj _) _).setCell (Aj _) _)⟩
  obtain⟨g,p1,c1,rfl,HG,AE,HQ,BN⟩:=hcut;rename Bh=>W6
  obtain⟨z0,z1,z2,z3,z4⟩:Zs W6 g k le v p1 d c1:=Qwv HG;have E3:=λq=>(show Q0u W6 g 172 from⟨_,HG.o⟩).free q;obtain⟨q,hq⟩:∃q,q=Zf k:=⟨_,rfl⟩;obtain⟨A7,BO⟩:∃x,x=if Zf k then le+by_ else le:=⟨_,rfl⟩;have FN:=qh BO;have CY:q=true->0<=le/\le<=8:=λe=>Q7i E0 (show Zf k=true by rw[<-hq];exact e);have CZ:q=true->A7=le+by_:=λe=>by rw[BO,<-hq,e];rfl
  have D0:q=false->A7=le:=λe=>by rw[BO,<-hq,e];rfl
  have FO:=D (Qyn A7) (by
   cases q
   ·rw[D0 rfl];exact CU.o.2.1
   rw[CZ rfl];have:=CY rfl;unfold Qyn;omega)
  go_upto_if 59 with((go_at_call 216;(with_reducible refine jX (Q7x k) ?_)))
  rw[<-hq];clear hq BO;go_cut [63] (λ_ wx=>Hd (wx.heap[g]?=R (.cells #[I Z k,I Z A7,I Z v,A p1 d c1,jN] 172 (0,0)))/\Hd (Q1 (λc=>c=g) W6 wx))
  case first=>
   cases q
   ·have h3:=qh (D0 rfl)
    go_wp2_with fail
    go_meet;rw[h3.o];exact⟨HG.o,Q1.refl _ _⟩
   obtain⟨HO,HR⟩:=CY rfl;have h2:=qh (CZ rfl);go_wp2_with fail
   go_meet;rw[h2.o];exact⟨Qmz HG,V1 (X:=λc=>c=g) (Q1.refl _ _) rfl _⟩
  obtain⟨E4,B6⟩:=hcut;rename Bh=>W8
  clear z0 z1 z2 z3 z4 E3 CY CZ D0;obtain⟨iw,FP,AA,FQ,FR⟩:=info_parts Q0a;obtain⟨ii,FT,FU,FV,FW⟩:=info_parts Q59;have FX:=D (1<=ws.length) (Q1t E0);have HU:wo.heap.size<=W8:=Au BN.o.size B6.o.size;have HV:g<W8:=(Al.1 E4).1;have HW:=qh B4;have FY:W8.cell? ⟨bx,ox+j * 5+4,N⟩=R (A pw ws cw):=(B6.o.cell (by have:=BN.o.size;omega) (λe=>by have:=AE.o;omega) _).trans (jC BN y4);go_upto_region 10 with fail
  go_loopw [13] (λi wx=>∃(r:Nat) (p2:Option Addr) (c2:Nat),r+1<=ws.length/\i=I Z (r+1:Nat)/\Hd (wx.heap[g]?=R (.cells #[I Z k,I Z A7,I Z v,A p1 d c1,A p2 (zr r) c2] 172 (0,0)))/\Hd (∃G,Ow (.slice Q5) wx [A p2 (zr r) c2] (zr r) G/\G.Nodup/\∀b∈G,W8<=b)/\Hd (Q1 (λc=>c=g) W8 wx)) (λi _=>ws.length-(By i).toNat);case atStart=>exact⟨0,N,0,FX.o,rfl,E4.o,⟨[],Ow.nil _,by simp,by simp⟩,Q1.refl _ _⟩
  obtain⟨r,p2,c2,hr,rfl,AI,E5,B7⟩:=hrel;have HY:ws.length<=4:=CV.o.2;have HZ:=(B7.o.cell (show bx<W8 by omega) (show ¬bx=g from λe=>by have:=AE.o;omega) _).trans FY;by_cases I0:r+1<ws.length
  ·obtain⟨Fr,D1,E6,E7⟩:=E5.o
   have FZ:=D (Ow (.slice Q5) (wr.alloc (.cells #[(),()] 40)) [A p2 (zr r) c2] (zr r) Fr) (D1.kept λb B=>Az _ _ _ (D1.lt b B));have G3:=qh E6;have D2:=qh E7;have z4:wr.cell? ⟨g,4,N⟩=R (A p2 (zr r) c2):=Q6 AI rfl;have I1:g<wr:=(Al.1 AI).1;have I2:=B7.o.size;have G4:=D ((zr r).length+1<=1000000000) (by have:=CV.o.2;simp[zr];omega);have E8:=D (Qyn 0/\Qyn 0) (by unfold Qyn;omega);have G5:=qh (Z3 (o':=.cells #[(),()] 40) AI);clear D1 E6 E7;go_wp2_with((at_builtin;go_loud(refine Q1a _ rfl (.tmp 75) (.tmp 77) 121 rfl (e:=Q5) 40 iw _ 16 underlying121 FP AA FQ FR rfl (by decide) (v:=A p2 (zr r) c2) (xs:=zr r) (y:=((0:Int),(0:Int))) (vs:=[(),()]) (F:=Fr) wr 1 rfl rfl FZ G3 (Ow.word E8.o.1 E8.o.2) (Q76 (Q6 (Bg wr _) rfl) (Q6 (Bg wr _) rfl)) (by simp[Value.oneCell']) G4 ?_;intro p3 c3 w3 F3 AJ AK AT AU;have AP:=qh AJ;have G6:=qh AK;have B8:=qh AT;have BP:=qh AU;have D3:=D (w3.heap[g]?=R (.cells #[I Z k,I Z A7,I Z v,A p1 d c1,A p2 (zr r) c2] 172 (0,0))) ((AU.block g (by simp;omega) (λe=>by have:=D2.o g e;omega)).trans G5);have E3:=(λq=>(show Q0u w3 g 172 from⟨_,D3.o⟩).free q);have I3:w3.cell? ⟨g,4,N⟩=R (A p2 (zr r) c2):=Q6 D3 rfl;clear AJ AK AT AU)))
   go_roundw;case rel=>
    have e:(zr (r+1)).length=(zr r)+1:=by rw[Qo4,Bo];rfl
    have E9:∀b∈F3,W8<=b:=λb B=>(B8.o b B).elim (D2.o b) λe=>by rw[e];simp;omega
    exact⟨r+1,p3,c3,by omega,by go_num,by rw[e];exact Qdv D3,⟨F3,by rw[e,Qo4];exact AP.o.frame (V1 (X:=λc=>c=g) (Q1.refl _ _) rfl _) λb B=>⟨AP.o.lt b B,λe=>by have:=E9 b B;omega⟩,G6.o,E9⟩,V1 (B7.o.more ((Q1.refl (λb=>b∈Fr) wr).alloc _|>.trans BP) λx hx=> .inr (D2.o x hx)) rfl _⟩
   simp[By];omega
  have EA:r+1=ws.length:=by omega
  have BQ:=qh EA;have D4:l.drop (j-1)=l.getD (j-1) 0::l.drop j:=by
   have hl:j-1<l.length:=by have:=CL.o;omega
   rw[List.drop_eq_getElem_cons hl,Ab,Ad hl,Nat.sub_add_cancel CQ];rfl
  obtain⟨a,ha⟩:∃a,a=l.getD (j-1) 0:=⟨_,rfl⟩;rw[<-ha]at D4;have EB:=D (Q1 (λc=>c=g) wo wr) ((B6.o.more B7 λx hx=> .inl hx)|>λh=>(Ay BN.o:Q1 (λc=>c=g) wo W6).more h λx hx=> .inl hx);have AQ:=D (Qn W0 S pb po wr (Jg n by_ m (j-1)) S' (a::l.drop j)) (by rw[<-D4];exact HS.o.other EB λc hc=>by subst hc;exact⟨λL=>by have:=HS.o.mem.lt c L;have:=AE.o;omega,by have:=AE.o;have:=HS.o.size;omega⟩);clear D4 ha;obtain⟨G2,AJ,AK,BR⟩:=E5.o;obtain⟨G1,BS,EC,D5⟩:=HQ.o;have G7:=D (Ow (.slice .int) wr [A p1 d c1] d G1) (BS.frame (B6.o.more B7 λx hx=> .inl hx) λb B=>⟨BS.lt b B,(D5 b B).2⟩);have B5:=D (Ow Q4 wr [I Z k,I Z A7,I Z v,A p1 d c1,A p2 (zr r) c2] (k,A7,v,d,zr r) (G1++G2)) (Ow.mkAgent CU.o.1 FO CU.o.2.2 G7 AJ);have G8:=D (Q30 (Q9 n j) by_=(k,A7,v,d,zr r)) (by rw[FJ.o,FN.o];unfold Q30 zr;simp only[aK,aL,aV,aD,aW];rw[show ws.length-1=r by have:=BQ.o;omega];rfl);have G9:=D ((G1++G2).Nodup) (Ba.2 ⟨EC,AK,λx hx y hy e=>by have:=BS.lt x hx;have:=BR y hy;have:=B6.o.size;omega⟩);have BT:=D (∀b∈G1++G2,wo<=b) (λb B=>(At0.1 B).elim (λh=>(D5 b h).1) λh=>by have:=BR b h;omega);have ED:=HS.o.mem.lt;have EE:=D ((∀b∈G1++G2,b∉pb::S'.all)/\∀b∈G1++G2,W0<=b) (⟨λb B L=>by have:=BT.o b B;have:=ED b L;omega,λb B=>by have:=BT.o b B;have:=HS.o.size;omega⟩);clear AJ AK BR BS EC D5 EA ED;obtain⟨Fa,oa,na,ba⟩:=HA.o;have D6:=D (Ow (.slice .int) wr [A pa (Qxs n by_ m (j-1)) ca] (Qxs n by_ m (j-1)) Fa) (oa.frame EB λb B=>⟨oa.lt b B,λe=>by have:=oa.lt b B;have:=AE.o;omega⟩);have GA:=qh na;have AV:=qh ba;have EF:=D (∀b∈Fa,b<wo.heap.size) (λb B=>oa.lt b B);have GB:=D (Qyn (a:Int)) (by have:=(AQ.o.first Z6).2.1;have B:=AQ.o.mem.cells.bound;unfold maxLen at B;unfold Qyn;omega);have AL:=D ((Qxs n by_ m (j-1)).length+1<=1000000000) (by rw[Q7r];omega);clear oa na ba;have q0:wr.cell? ⟨g,0,N⟩=R (I Z k):=Q6 AI rfl;have q1:wr.cell? ⟨g,1,N⟩=R (I Z A7):=Q6 AI rfl;have q2:wr.cell? ⟨g,2,N⟩=R (I Z v):=Q6 AI rfl;have q3:wr.cell? ⟨g,3,N⟩=R (A p1 d c1):=Q6 AI rfl;have q4:wr.cell? ⟨g,4,N⟩=R (A p2 (zr r) c2):=Q6 AI rfl;go_wp2_with(first|((go_at_call 243;(with_reducible refine(Q6h AQ k A7 v p1 p2 d c1 (zr r) c2 (k,A7,v,d,zr r) (G1++G2) B5 G9 EE.o.1 EE.o.2).mono ?_);rintro e w3 ⟨rfl,hs,Y⟩;have B8:=qh hs;have BP:=qh Y;clear hs Y))|((at_builtin;refine Q1a _ rfl (.tmp 80) (.tmp 84) 34 rfl (e:=.int) 2 ii _ 8 underlying34 FT FU FV FW rfl (by decide) (v:=A pa (Qxs n by_ m (j-1)) ca) (xs:=Qxs n by_ m (j-1)) (y:=(a:Int)) (vs:=[I Z a]) (F:=Fa) w3 1 rfl rfl ((D6.o.frame BP (λb B=>⟨D6.o.lt b B,λe=>by have:=(AV.o b B).1;have:=AS.o.lt pb Ae;have:=AS.o.lt S.cb (Aa _ Ae);omega⟩)).kept λb B=>Az _ _ _ (Ap (D6.o.lt b B) BP.o.size)) GA ⟨rfl,GB.o,rfl⟩ (Qio (Q6 (Bg w3 _) rfl)) (by simp[Value.oneCell']) AL ?_;intro p4 c4 w4 F4 AJ AK AT AU;have BU:=qh AJ;have GC:=qh AK;have GD:=qh AT;have GE:=qh (Q1.trans (show Q1 (λc=>c∈Fa) w3 _ from(Q1.refl _ w3).alloc _) AU);clear AJ AK AT AU))|fail)
  have HT:=D (Jg n by_ m (j+1-1)=Qi (Jg n by_ m (j-1)) (k,A7,v,d,zr r)) (by rw[Ih,Qlx CQ,G8.o]);have GF:=D (Qxs n by_ m (j+1-1)=Qxs n by_ m (j-1)++ [(a:Int)]) (by rw[Ih,Qrq CQ,(AQ.o.first Z6).1]);have BV:=D (∀b∈F4,W0<=b/\b∉(S'.put a (G1++G2)).all) (λb B=>by
   rcases GD.o b B with h|h
   ·refine⟨(AV.o b h).1,λL=> ?_⟩
    rcases Y0 L with L|L
    ·have:=BT.o b L;have:=EF.o b h;omega
    exact(AV.o b h).2 L
   have h1:=B8.o.size;simp at h;exact⟨by omega,λL=>by have:=B8.o.mem.lt b (Aa _ L);omega⟩)
  have GG:=D (∀c∈Fa,c∉pb::(S'.put a (G1++G2)).all/\W0<=c) (λc hc=>⟨λL=>by
   rcases Aq.1 L with e|L
   ·have:=(AV.o c hc).1;have:=AS.o.lt pb Ae;omega
   rcases Y0 L with L|L
   ·have:=BT.o c L;have:=EF.o c hc;omega
   exact(AV.o c hc).2 L,(AV.o c hc).1⟩)
  refine⟨⟨j+1,S'.put a (G1++G2),by omega,by omega,by go_num, ?_, ?_⟩,by simp[By];omega⟩
  ·show Qn _ _ _ _ _ _ _ _
   rw[HT.o,Ih];exact B8.o.other GE GG.o
  show Je _ _ _ _ _ _;rw[GF.o];exact⟨F4,BU.o,GC.o,BV.o⟩
 have B9:j=n:=by omega
 have I4:=qh B9;obtain⟨m1,BA⟩:∃x,x=Jg n by_ m (n.length-1):=⟨_,rfl⟩;obtain⟨at_,AW⟩:∃x,x=Qxs n by_ m (n.length-1):=⟨_,rfl⟩;obtain⟨l1,BW⟩:∃x,x=l.drop (n.length-1):=⟨_,rfl⟩;have EG:n.length-1<=l.length:=by have:=CL.o;omega
 have EH:=D (J9 n at_ (mC m) m1 l1) (by rw[BA,AW,BW];exact Qcf CK EG);have EI:=D ((Zg n).length<=l1) (by rw[BW,List.length_drop];have:=CL.o;omega);have A3:=D (Qn W0 S pb po wo m1 S' l1) (by rw[BA,BW,<-B9];exact HS.o);rw[B9,<-AW]at HA;have GH:=D (mX m1=mX m) (by rw[BA];exact Qbm n by_ m _);have GI:=D (∀W,Q1 (λc=>c=pb\/c∈S'.all) wo W->Bp A8 A8 W) (λW Y=>CM.o W (CR.o.more Y λx hx=>hx.elim (λe=> .inl (.inl e)) λe=>(A3.o.fresh.2.2.2 x e).elim (λe=> .inl (.inr e)) λe=> .inr (by omega)));have GJ:=D (∀i,1<=i->i<n.length->aK (Q9 n i)≠0/\0<(aW (Q9 n i)).length) (λi h1 h2=>⟨Qmk (AH.o.2.1 i h2),Q1t (AH.o.2.1 i h2)⟩);have AL:=D (at_.length=n) (by rw[AW,Q7r];omega);have EJ:A pa (Qxs n by_ m (j-1)) ca=A pa at_ ca:=by rw[B9,AW]
 have BB:=D (V8 n by_ (1,U) m=((Y5 n).foldl (λm p=>Ya m (at_.getD p.1.toNat 0) (at_.getD p.2.toNat 0)) ((Yw n).foldl (Yj at_ (1,U)) (m1,(0,0))).1,((Yw n).foldl (Yj at_ (1,U)) (m1,(0,0))).2)) (by rw[BA,AW];rfl);rw[EJ];have I5:¬(j:Int)<n:=by omega
 clear B9 A1 HS BA AW BW EJ EG;go_upto_region 15 with fail
 refine Qp λW2 BX=> ?_;have EK:=D (wo,W2) (by rw[BX];go_grown);have AT:W2.heap.size=wo+1:=by rw[BX];simp
 have GK:=D (W2.heap[wo.heap.size]?=R (.cells #[(),()] 40 (0,0))) (by rw[BX];exact Bg wo _);have GL:=qh (DV.o W2 (CM.o W2 (Q1.trans CR (Ay EK))));have BY:=D (n.length<=1000000/\(Qk n).length<=10000000) (⟨AH.o.2.2.2.1,AH.o.2.2.2.2.1⟩);clear BX;go_upto_region 16 with((go_at_call 257;(with_reducible refine(Qlk W2 nb no n GL BY.o.1 BY.o.2).mono ?_);rintro e W3 ⟨GM,rfl,ho,B⟩;have AP:=qh ho;have BC:=qh B;clear ho B))
 obtain⟨ws,D7⟩:∃x,x=Yw n:=⟨_,rfl⟩;have D8:=qh D7;rw[<-D7]at BB AP;have D9:=qh (Q0 EK BC);have EL:=BC.o.size;have DA:=D (Qn wo S' pb po W3 m1 S' l1) ((Qn.start A3.o.mem A3.o.free).below D9);have DB:=D (W3.heap[wo.heap.size]?=R (.cells #[(),()] 40 (0,0))) ((BC.o.block _ (by omega)).trans GK);have GN:=D (wo.heap.size∉S'.all) (λL=>by have:=A3.o.mem.lt _ (Aa _ L);omega);have BZ:=D (Je Z7 W2 S' W3 GM ws) (Je.ofOwn AP rfl (Aj _) λb B=>by have:=A3.o.mem.lt b (Aa _ B);omega);obtain⟨GO,AF,rfl⟩:=BZ.o.form;obtain⟨bt,ot,rfl,-⟩:=Rd.elem HA.o.rd 0 (by rw[AL.o];omega);have C0:=D (∀W,Q1 (λc=>c=pb\/c∈S'.all) wo W->∀i:Int,0<=i->i<n.length->(W,bt,ot+i.toNat,I Z (at_.getD i.toNat 0))/\Qyn (at_.getD i.toNat 0)) (by
  intro W Y i h0 h1;obtain⟨F,o,nd,r⟩:=HA.o;have hr:=(o.frame Y λb B=>⟨o.lt b B,λe=>e.elim (λe=>by have:=(r b B).1;have:=AS.o.lt pb Ae;omega) (r b B).2⟩).rd;have hi:i.toNat<at_:=by rw[AL.o];omega
  obtain⟨b',o',hp,he⟩:=Rd.elem hr i.toNat hi;simp only[Option.some.injEq,Addr.mk.injEq,and_true]at hp;obtain⟨rfl,rfl⟩:=hp;have:=At.int he;simp only[Ty.sz,Cc]at this;have e:at_[i.toNat]=at_.getD i.toNat 0:=by rw[Ab,Ad hi];rfl
  rw[e]at this;exact this)
 have AX:=D (w.heap.size+1∉pb::S.all/\w.heap.size+1∉S'.all) (by
  have h3:w.heap.size+1∉pb::S.all:=λL=>by have:=HM.o.lt _ L;omega
  exact⟨h3,λe=>(A3.o.fresh.2.2.2 _ e).elim (λe=>h3 (Aa _ e)) λe=>by omega⟩)
 have GP:=D (∀W,Q1 (λc=>c=pb\/c∈S'.all) wo W->W.heap[w.heap.size+1]?=R (.cells #[(),()] 40 (0,0))) (by
  intro W Y;have h2:w.heap.size+1<W0.heap.size:=by omega
  rw[Y.block _ (Ap h2 A3.o.size) (λe=>e.elim (λe=>AX.o.1 (e▸Ae)) AX.o.2),A3.o.fr.block _ h2 (λe=>e.elim (λe=>AX.o.1 (e▸Ae)) λe=>AX.o.1 (Aa _ e))];exact CO.o.2)
 have GQ:=D (∀W,Q1 (λc=>c=pb\/c∈S'.all) wo W->(W,w.heap.size,0,I Z 1)/\(W,w.heap.size,1,I Z U)) (by
  intro W Y;have h1:=HM.o.lt;have h2:w.heap.size<W0:=by omega
  have h3:w.heap.size∉pb::S.all:=λL=>by have:=h1 _ L;omega
  have h4:¬(w=pb\/w.heap.size∈S'.all):=λe=>by
   rcases e with e|e
   ·exact h3 (e▸Ae)
   rcases A3.o.fresh.2.2.2 _ e with e|e
   ·exact h3 (Aa _ e)
   omega
  exact⟨(Y.cell (Ap h2 A3.o.size) h4 0).trans ((A3.o.cell h2 h3 0).trans (Q6 CO.o.1 rfl)),(Y.cell (Ap h2 A3.o.size) h4 1).trans ((A3.o.cell h2 h3 1).trans (Q6 CO.o.1 rfl))⟩)
 obtain⟨F0,EM⟩:∃F:List Qy3->Qyb×Wd,F=λq=>q.foldl (Yj at_ (1,U)) (m1,(0,0)):=⟨_,rfl⟩;have C1:=qh EM;have EN:=D ((ws.filter λw=>decide (0<w.1.2) && decide (0<w.2.2)).length<=l1) (by rw[D8.o];exact EI.o);clear EM D7;go_upto_region 17 with fail
 go_loopw [16] (λi wx=>∃(q:Nat) (S2:MS) (f:List Nat),q<=ws.length/\i=I Z q/\Hd (Qn wo S' pb po wx (F0 (ws.take q)).1 S2 f)/\Hd (Je Z7 W2 S2 wx (A GO ws AF) ws)/\Hd (wx.heap[wo.heap.size]?=R (.cells #[I Z (F0 (ws.take q)).2.1,I Z (F0 (ws.take q)).2.2] 40 (0,0)))/\Hd (wo.heap.size∉S2.all)/\Hd (J9 n at_ (mC m) (F0 (ws.take q)).1 f)/\Hd ((ws.filter λw=>decide (0<w.1.2) && decide (0<w.2.2)).length<=f+((ws.take q).filter λw=>decide (0<w.1.2) && decide (0<w.2.2)).length)/\Hd (Qyn (F0 (ws.take q)).2.1/\Qyn (F0 (ws.take q)).2.2)) (λi _=>ws.length-(By i).toNat);case atStart=>
  have e:F0 (ws.take 0)=(m1,(0,0)):=by rw[C1.o,Hs];rfl
  refine⟨0,S',l1,Ak _,rfl, ?_,BZ.o, ?_,GN.o, ?_, ?_, ?_⟩
  ·show Qn _ _ _ _ _ _ _ _
   rw[e];exact DA.o
  ·show _=_
   rw[e];exact DB.o
  ·show J9 _ _ _ _ _
   rw[e];exact EH.o
  ·show _<=_
   rw[Hs];exact EN.o
  show _/\_;rw[e];unfold Qyn;simp
 obtain⟨q,S2,f,hq,rfl,AR,C2,AM,C3,A5,DC,AY⟩:=hrel;by_cases A1:q<ws.length
 ·obtain⟨bw,ow,rfl,hE⟩:=Rd.elem C2.o.rd q A1
  have hE:At Z7 wr bw (ow+q * 4) ws[q]:=hE;have EO:=qh (Qm0 DT (w:=ws[q]) (by rw[<-D8.o];exact As A1));have BV:=D (F0 (ws.take (q+1))=Yj at_ (1,U) (F0 (ws.take q)) ws[q]) (by rw[C1.o];simp only;rw[An A1,Dj];rfl);have DD:=D (((ws.take (q+1)).filter λw=>decide (0<w.1.2) && decide (0<w.2.2)).length=((ws.take q).filter λw=>decide (0<w.1.2) && decide (0<w.2.2))+(if decide (0<ws[q].1.2) && decide (0<ws[q].2.2)then 1 else 0)) (by
   rw[An A1,List.filter_append,Bo];congr 1
   simp only[List.filter_cons,List.filter_nil];split<;>rfl)
  have GR:=D (((ws.take q).filter λw=>decide (0<w.1.2) && decide (0<w.2.2)).length+(if decide (0<ws[q].1.2) && decide (0<ws[q].2.2)then 1 else 0)<=(ws.filter λw=>decide (0<w.1.2) && decide (0<w.2.2))) (by rw[<-DD.o];exact(List.Sublist.filter _ (List.take_sublist _ _)).length_le);generalize ws[q]=x at *
  obtain⟨⟨J,E⟩,⟨M,C⟩⟩:=x;have hL:=At.link hE;obtain⟨⟨x0,V,x2,x3⟩,hI⟩:=hL;have I6:=qh hI;have EP:=Ac wr _ x0;simp only at EP;generalize F0 (ws.take q)=Fq at *
  obtain⟨H,t,z⟩:=Fq;clear hE hI;have EQ:W2.heap.size<=wr:=by have:=(Al.1 AM).1;omega
  obtain⟨⟨GS,ER⟩,⟨I7,DE⟩,⟨B2,B4⟩,⟨I8,DF⟩,DG⟩:(0<=J/\J<n)/\(0<=E/\E<(aW (Q7 n J)))/\(1<=M/\M<n)/\(0<=C/\C<(aW (Q7 n M)))/\(J=0->E=0):=EO.o;have AZ:=D (∀m3 T,J9 n at_ (mC m) m3 T->0<=at_.getD M.toNat 0/\at_.getD M.toNat 0<(mC m3).length/\(at_.getD M.toNat 0).toNat∉T/\(aW (Q7 (mC m3) (at_.getD M.toNat 0))).length=(aW (Q7 n M))-1) (λm3 T h=>by rw[h.1];exact h.2.2 M.toNat (by omega) (by omega));have ES:=D (J≠0->∀m3 T,J9 n at_ (mC m) m3 T->0<=at_.getD J.toNat 0/\at_.getD J.toNat 0<(mC m3).length/\(at_.getD J.toNat 0).toNat∉T/\(aW (Q7 (mC m3) (at_.getD J.toNat 0))).length=(aW (Q7 n J))-1) (λh0 m3 T h=>by rw[h.1];exact h.2.2 J.toNat (by omega) (by omega));have BD:=D (E<(aW (Q7 n J))/\C<(aW (Q7 n M))) (⟨DE,DF⟩);have DH:=D (E<=100000000/\C<=100000000) (by have e1:=(AH.o.2.2.1 J.toNat).2;have e2:=(AH.o.2.2.1 M.toNat).2;have e3:Q7 n J=Q9 n J.toNat:=rfl;have e4:Q7 n M=Q9 n M.toNat:=rfl;rw[e3]at DE;rw[e4]at DF;omega);have I9:ws.length<=10000000:=by rw[D8.o];exact Au (Qk2 n) BY.o.2
  have ET:=D (F0 (ws.take (q+1))=Qd9 (at_.getD J.toNat 0) (at_.getD M.toNat 0) (1,U) (H,t,z) (J,E) (M,C)) (BV.o);have AD:=D (∀W,Q1 (λc=>c=pb\/c∈S'.all) wo W->(W,bt,ot+J.toNat,I Z (at_.getD J.toNat 0))/\Qyn (at_.getD J.toNat 0)) (λW Y=>C0.o W Y J GS ER);have AN:=D (∀W,Q1 (λc=>c=pb\/c∈S'.all) wo W->(W,bt,ot+M.toNat,I Z (at_.getD M.toNat 0))/\Qyn (at_.getD M.toNat 0)) (λW Y=>C0.o W Y M (by omega) B4);generalize at_.getD J.toNat 0=ka at *
  generalize at_.getD M.toNat 0=kb at *
  clear DE DF EO BV;go_upto_region 23 with fail
  refine Qp λW5 EU=> ?_;have HP:=D (Qxx wo W2 S' pb po (A (R ⟨bw,ow,N⟩) ws AF) ws wr (J,E) (M,C) (0,0) (0,0) (t,z) W5 H S2 f) (by rw[EU];exact Qxx.start AR C2 AM C3 (by omega) EQ);clear EU AR C2 AM C3 x0 V x2 x3 EP EQ;obtain⟨⟨r0,r1⟩,⟨a0,A4⟩,⟨b0,A0⟩,-,-⟩:=HP.o.cells;obtain⟨fr,fx,fy⟩:=HP.o.free;simp only at r0 r1 a0 A4 b0 A0;obtain⟨tb,-⟩:=AN.o W5 HP.o.st.fr;have IA:J<at_:=by rw[AL.o];exact ER
  have IB:M<at_:=by rw[AL.o];exact B4
  have IC:0<=M:=by omega
  have B0:=qh (show∀(W:Bh) (m3:Qyb) (S3:MS) (T:List Nat) (x y B1:Wd),Qd9 ka kb (1,U) (H,t,z) (J,E) (M,C)=(m3,B1)->Qxx wo W2 S' pb po (A (R ⟨bw,ow,N⟩) ws AF) ws wr (J,E) (M,C) x y B1 W m3 S3 T->J9 n at_ (mC m) m3 T->f.length<=T.length+(if decide (0<E) && decide (0<C)then 1 else 0)->Qyn B1.1/\Qyn B1.2->
    ∃(q':Nat) (S2:MS) (f:List Nat),q'<=ws/\I Z ((q:Int)+1)=I Z q'/\Hd (Qn wo S' pb po W (F0 (ws.take q')).1 S2 f)/\Hd (Je Z7 W2 S2 W (A (R ⟨bw,ow,N⟩) ws AF) ws)/\Hd (W.heap[wo.heap.size]?=R (.cells #[I Z (F0 (ws.take q')).2.1,I Z (F0 (ws.take q')).2.2] 40 (0,0)))/\Hd (wo.heap.size∉S2.all)/\Hd (J9 n at_ (mC m) (F0 (ws.take q')).1 f)/\Hd ((ws.filter λw=>decide (0<w.1.2) && decide (0<w.2.2)).length<=f+((ws.take q').filter λw=>decide (0<w.1.2) && decide (0<w.2.2)).length)/\Hd (Qyn (F0 (ws.take q')).2.1/\Qyn (F0 (ws.take q')).2.2)by
   intro W m3 S3 T x y B1 he hp hi hc GT;have e:F0 (ws.take (q+1))=(m3,B1):=ET.o.trans he;have h1:=DD.o;have h2:=DC.o;simp only at h1;refine⟨q+1,S3,T,A1,by go_num, ?_,hp.fin, ?_,hp.sep.1, ?_, ?_, ?_⟩
   ·show Qn _ _ _ _ _ _ _ _
    rw[e];exact hp.st
   ·show _=_
    rw[e];exact hp.root
   ·show J9 _ _ _ _ _
    rw[e];exact hi
   ·show _<=_
    rw[h1];omega
   show _/\_;rw[e];exact GT)
  have ID:ws.length-(q+1)<ws-q:=by omega
  clear BZ AP DA DB BC D9 ET DD EL hE;have GU:=D ((mC m).length<=1500) (A9.o);by_cases qa:J=0
  ·obtain rfl:J=0:=qa
   obtain rfl:E=0:=DG rfl;clear DG;by_cases qb:C=0
   ·obtain rfl:C=0:=qb
    go_wp2_with fail
    go_roundw;case rel=>exact B0.o _ _ _ _ _ _ (1,kb) rfl (HP.o.setR _ _) A5 (by simp) ⟨by unfold Qyn;omega,(AN.o W5 HP.o.st.fr).2⟩
    simp[By];omega
   have IE:(C==0)=false:=by simpa using qb
   have BR:0<C:=by omega
   have GV:C<=100000000:=DH.o.2;have IF:=qh qb;clear qb;obtain⟨e0,e1⟩:=GQ.o W5 HP.o.st.fr;have IG:w.heap.size<wo:=by have:=A3.o.size;omega
   have IH:w.heap.size≠wo:=by omega
   go_wp2_with fail
   refine Qp λW6 AB=> ?_;have K:=D (Qxx wo W2 S' pb po (A (R ⟨bw,ow,N⟩) ws AF) ws wr (0,0) (M,C) (0,0) (0,0) (1,U) W6 H S2 f) (by rw[AB];exact HP.o.setR _ _);clear AB HP r0 r1 a0 A4 b0 A0 e0 e1 fr fx fy tb;obtain⟨⟨r0,r1⟩,-,⟨b0,A0⟩,-,-⟩:=K.o.cells;simp only at r0 r1 b0 A0;obtain⟨tb,-⟩:=AN.o W6 K.o.st.fr;obtain⟨_,_,m0,-⟩:=K.o.st.mem.head;obtain⟨k0,k1,k2,k3⟩:=AZ.o _ _ A5;have A6:C.toNat-1<(aW (Q7 (mC H) kb)).length:=by rw[k3];have:=BD.o.2;omega
   have BE:kb<((mC H):Int):=k1;obtain⟨bq,oq,cq,z1,⟨z2,z3⟩,z4,⟨O,z6⟩,z7,z8⟩:=K.o.word (i:=kb) (by omega) k2 A6;have BF:C-1<((aW (Q7 (mC H) kb)):Int):=by omega
   have AC:=qh z8;have BG:=qh O;clear z8 O k1 k2 k3 A6;have A9:=D ((C-1).toNat=C.toNat-1) (by omega);have GW:C≠0:=by omega
   have AA:IntKind.i64.wrap (C-1)=C-1:=by simp only[Db];omega
   have BH:1<=C:=by omega
   have BI:0<=C-1:=by omega
   have BJ:C<=((aW (Q7 (mC H) kb)):Int):=by omega
   go_still_tail 17,(by kernel_rfl)
   clear AA;go_wp2_with fail
   go_roundw;case rel=>exact B0.o _ (Qm H kb (C-1) (1,U)) S2 f (0,0) (0,0) (1,U) (by unfold Qd9;simp[GW]) (by unfold Qm;rw[A9.o];exact(AC.o 1 U (by unfold Qyn;omega) DU).drew) (A5.o.set (AZ.o _ _ A5).2.2.1) (by simp) ⟨by unfold Qyn;omega,DU.o⟩
   simp[By];omega
  have II:(J==0)=false:=by simpa using qa
  have C4:=qh (ES.o qa);have C5:=qh qa;have IJ:E<=100000000:=DH.o.1;have GV:C<=100000000:=DH.o.2;obtain⟨ta,-⟩:=AD.o W5 HP.o.st.fr;obtain⟨-,-,-,⟨x0,V⟩,⟨y0,y1⟩⟩:=HP.o.cells;simp only at x0 V y0 y1;have C6:=D (Qyn 1/\Qyn 2) (by unfold Qyn;omega);clear qa DG ES;by_cases qc:0<E
  ·by_cases qd:0<C
   ·have C7:decide (0<E)=true:=by simpa using qc
    have C8:decide (0<C)=true:=by simpa using qd
    obtain⟨v,T,rfl⟩:∃v T,f=v::T:=by
     have h1:=DC.o;have h2:=GR.o;simp only[C7,C8,Bool.and_self,if_true]at h2;match f,(show 0<f.length by omega)with
     |v::T,_=>exact⟨v,T,rfl⟩
    have C9:=D (mF H=(v:Int)/\J9 n at_ (mC m) (Qw H) T) (⟨A5.o.var.2.1,A5.o.var.1⟩);have EV:=D (Qyn (v:Int)) (by have h1:=A5.o.var.2.2;have:=GU.o;unfold Qyn;omega);have GX:=D ((v::T).length<=T.length+(if decide (0<E) && decide (0<C)then 1 else 0)) (by simp[C7,C8]);have BK:=D (Qd9 ka kb (1,U) (H,t,z) (J,E) (M,C)=(Qm (Qm (Qw H) ka (E-1) (2,(v:Int))) kb (C-1) (2,(v:Int)),(t,z))) (by unfold Qd9;simp[C5.o,C7,C8,C9.o.1]);clear C7 C8;go_wp2_with((go_at_call 260;(with_reducible refine(Qbu HP.o.st).mono ?_);rintro e w3 ⟨rfl,hs,Y⟩;have CA:=qh (HP.o.newv hs Y);clear hs Y HP;obtain⟨⟨r0,r1⟩,⟨a0,A4⟩,⟨b0,A0⟩,⟨x0,V⟩,⟨y0,y1⟩⟩:=CA.o.cells;simp only at r0 r1 a0 A4 b0 A0 x0 V y0 y1;obtain⟨fr,fx,fy⟩:=CA.o.free))
    refine Qp λW6 AB=> ?_;have K:=D (Qxx wo W2 S' pb po (A (R ⟨bw,ow,N⟩) ws AF) ws wr (J,E) (M,C) (2,(v:Int)) (2,(v:Int)) (t,z) W6 (Qw H) (S2.put v []) T) (by rw[AB];exact(CA.o.setX _ _).setY _ _);clear AB CA r0 r1 a0 A4 b0 A0 x0 V y0 y1 fr fx fy ta tb;obtain⟨⟨r0,r1⟩,⟨a0,A4⟩,⟨b0,A0⟩,⟨x0,V⟩,⟨y0,y1⟩⟩:=K.o.cells;simp only at r0 r1 a0 A4 b0 A0 x0 V y0 y1;obtain⟨ta,-⟩:=AD.o W6 K.o.st.fr;obtain⟨tb,-⟩:=AN.o W6 K.o.st.fr;obtain⟨_,_,m0,-⟩:=K.o.st.mem.head;obtain⟨k0,k1,k2,k3⟩:=C4.o _ _ C9.o.2;have A6:E.toNat-1<(aW (Q7 (mC (Qw H)) ka)).length:=by rw[k3];have:=BD.o.1;omega
    have BE:ka<((mC (Qw H)):Int):=k1;obtain⟨bq,oq,cq,z1,⟨z2,z3⟩,z4,⟨O,z6⟩,z7,z8⟩:=K.o.word (i:=ka) (by omega) k2 A6;have BF:E-1<((aW (Q7 (mC (Qw H)) ka)):Int):=by omega
    have AC:=qh z8;have BG:=qh O;have CB:bq≠wr:=λe=>K.o.sep.2 0 (by omega) (e▸O);have CC:bq≠wr+1:=λe=>K.o.sep.2 1 (by omega) (e▸O);have CD:bq≠wr+1+1:=λe=>K.o.sep.2 2 (by omega) (e▸O);have CE:bq≠wr+1+1+1:=λe=>K.o.sep.2 3 (by omega) (e▸O);clear z8 O k1 k2 k3 A6;have A9:=D ((E-1).toNat=E.toNat-1) (by omega);have AA:IntKind.i64.wrap (E-1)=E-1:=by simp only[Db];omega
    have BH:1<=E:=by omega
    have BI:0<=E-1:=by omega
    have BJ:E<=((aW (Q7 (mC (Qw H)) ka)):Int):=by omega
    (try go_wp2_with fail)
    go_still_tail 17,(by kernel_rfl)
    clear AA;go_wp2_with fail
    refine Qp λW7 EW=> ?_;have AG:=D (Qxx wo W2 S' pb po (A (R ⟨bw,ow,N⟩) ws AF) ws wr (J,E) (M,C) (2,(v:Int)) (2,(v:Int)) (t,z) W7 (Qm (Qw H) ka (E-1) (2,(v:Int))) (S2.put v []) T) (by rw[EW];unfold Qm;rw[A9.o];exact(AC.o 2 v C6.o.2 EV).drew);have DI:=D (J9 n at_ (mC m) (Qm (Qw H) ka (E-1) (2,(v:Int))) T) (C9.o.2.set (C4.o _ _ C9.o.2).2.2.1);clear EW K AC BG A9 r0 r1 a0 A4 b0 A0 x0 V y0 y1 ta tb m0 z1 z2 z3 z4 z6 z7 BF BJ BH BI BE k0 CB CC CD CE;generalize Qm (Qw H) ka (E-1) (2,(v:Int))=m7 at *
    obtain⟨⟨r0,r1⟩,⟨a0,A4⟩,⟨b0,A0⟩,⟨x0,V⟩,⟨y0,y1⟩⟩:=AG.o.cells;simp only at r0 r1 a0 A4 b0 A0 x0 V y0 y1;obtain⟨ta,-⟩:=AD.o W7 AG.o.st.fr;obtain⟨tb,-⟩:=AN.o W7 AG.o.st.fr;obtain⟨_,_,m0,-⟩:=AG.o.st.mem.head;obtain⟨k0,k1,k2,k3⟩:=AZ.o _ _ DI;have A6:C.toNat-1<(aW (Q7 (mC m7) kb)).length:=by rw[k3];have:=BD.o.2;omega
    have BE:kb<((mC m7):Int):=k1;obtain⟨bq,oq,cq,z1,⟨z2,z3⟩,z4,⟨O,z6⟩,z7,z8⟩:=AG.o.word (i:=kb) (by omega) k2 A6;have BF:C-1<((aW (Q7 (mC m7) kb)):Int):=by omega
    have AC:=qh z8;have BG:=qh O;have CB:bq≠wr:=λe=>AG.o.sep.2 0 (by omega) (e▸O);have CC:bq≠wr+1:=λe=>AG.o.sep.2 1 (by omega) (e▸O);have CD:bq≠wr+1+1:=λe=>AG.o.sep.2 2 (by omega) (e▸O);have CE:bq≠wr+1+1+1:=λe=>AG.o.sep.2 3 (by omega) (e▸O);clear z8 O k1 k2 k3 A6;have A9:=D ((C-1).toNat=C.toNat-1) (by omega);have AA:IntKind.i64.wrap (C-1)=C-1:=by simp only[Db];omega
    have BH:1<=C:=by omega
    have BI:0<=C-1:=by omega
    have BJ:C<=((aW (Q7 (mC m7) kb)):Int):=by omega
    (try go_wp2_with fail)
    go_still_tail 17,(by kernel_rfl)
    clear AA;go_wp2_with fail
    go_roundw;case rel=>exact B0.o _ (Qm m7 kb (C-1) (2,(v:Int))) _ T (2,(v:Int)) (2,(v:Int)) (t,z) BK (by unfold Qm;rw[A9.o];exact(AC.o 2 v C6.o.2 EV).drew) (DI.o.set (AZ.o _ _ DI).2.2.1) GX AY.o
    simp[By];omega
   obtain rfl:C=0:=by omega
   have BK:=D (Qd9 ka kb (1,U) (H,t,z) (J,E) (M,0)=(Qm H ka (E-1) (1,kb),(t,z))) (by unfold Qd9;simp[C5.o,qc]);go_wp2_with fail
   refine Qp λW6 AB=> ?_;have K:=D (Qxx wo W2 S' pb po (A (R ⟨bw,ow,N⟩) ws AF) ws wr (J,E) (M,0) (1,kb) (0,0) (t,z) W6 H S2 f) (by rw[AB];exact HP.o.setX _ _);have DJ:=qh (AN.o W5 HP.o.st.fr).2;clear AB HP r0 r1 a0 A4 b0 A0 x0 V y0 y1 fr fx fy ta tb;obtain⟨⟨r0,r1⟩,⟨a0,A4⟩,⟨b0,A0⟩,⟨x0,V⟩,⟨y0,y1⟩⟩:=K.o.cells;simp only at r0 r1 a0 A4 b0 A0 x0 V y0 y1;obtain⟨ta,-⟩:=AD.o W6 K.o.st.fr;obtain⟨tb,-⟩:=AN.o W6 K.o.st.fr;obtain⟨_,_,m0,-⟩:=K.o.st.mem.head;obtain⟨k0,k1,k2,k3⟩:=C4.o _ _ A5;have A6:E.toNat-1<(aW (Q7 (mC H) ka)).length:=by rw[k3];have:=BD.o.1;omega
   have BE:ka<((mC H):Int):=k1;obtain⟨bq,oq,cq,z1,⟨z2,z3⟩,z4,⟨O,z6⟩,z7,z8⟩:=K.o.word (i:=ka) (by omega) k2 A6;have BF:E-1<((aW (Q7 (mC H) ka)):Int):=by omega
   have AC:=qh z8;have BG:=qh O;have CB:bq≠wr:=λe=>K.o.sep.2 0 (by omega) (e▸O);have CC:bq≠wr+1:=λe=>K.o.sep.2 1 (by omega) (e▸O);have CD:bq≠wr+1+1:=λe=>K.o.sep.2 2 (by omega) (e▸O);have CE:bq≠wr+1+1+1:=λe=>K.o.sep.2 3 (by omega) (e▸O);clear z8 O k1 k2 k3 A6;have A9:=D ((E-1).toNat=E.toNat-1) (by omega);have AA:IntKind.i64.wrap (E-1)=E-1:=by simp only[Db];omega
   have BH:1<=E:=by omega
   have BI:0<=E-1:=by omega
   have BJ:E<=((aW (Q7 (mC H) ka)):Int):=by omega
   (try go_wp2_with fail)
   go_still_tail 17,(by kernel_rfl)
   clear AA;go_wp2_with fail
   go_roundw;case rel=>exact B0.o _ (Qm H ka (E-1) (1,kb)) _ f (1,kb) (0,0) (t,z) BK (by unfold Qm;rw[A9.o];exact(AC.o 1 kb C6.o.1 DJ).drew) (A5.o.set (C4.o _ _ A5).2.2.1) (by simp) AY.o
   simp[By];omega
  obtain rfl:E=0:=by omega
  by_cases qd:0<C
  ·have BK:=D (Qd9 ka kb (1,U) (H,t,z) (J,0) (M,C)=(Qm H kb (C-1) (1,ka),(t,z))) (by unfold Qd9;simp[C5.o,qd])
   go_wp2_with fail
   refine Qp λW6 AB=> ?_;have K:=D (Qxx wo W2 S' pb po (A (R ⟨bw,ow,N⟩) ws AF) ws wr (J,0) (M,C) (0,0) (1,ka) (t,z) W6 H S2 f) (by rw[AB];exact HP.o.setY _ _);have DJ:=qh (AD.o W5 HP.o.st.fr).2;clear AB HP r0 r1 a0 A4 b0 A0 x0 V y0 y1 fr fx fy ta tb;obtain⟨⟨r0,r1⟩,⟨a0,A4⟩,⟨b0,A0⟩,⟨x0,V⟩,⟨y0,y1⟩⟩:=K.o.cells;simp only at r0 r1 a0 A4 b0 A0 x0 V y0 y1;obtain⟨ta,-⟩:=AD.o W6 K.o.st.fr;obtain⟨tb,-⟩:=AN.o W6 K.o.st.fr;obtain⟨_,_,m0,-⟩:=K.o.st.mem.head;obtain⟨k0,k1,k2,k3⟩:=AZ.o _ _ A5;have A6:C.toNat-1<(aW (Q7 (mC H) kb)).length:=by rw[k3];have:=BD.o.2;omega
   have BE:kb<((mC H):Int):=k1;obtain⟨bq,oq,cq,z1,⟨z2,z3⟩,z4,⟨O,z6⟩,z7,z8⟩:=K.o.word (i:=kb) (by omega) k2 A6;have BF:C-1<((aW (Q7 (mC H) kb)):Int):=by omega
   have AC:=qh z8;have BG:=qh O;have CB:bq≠wr:=λe=>K.o.sep.2 0 (by omega) (e▸O);have CC:bq≠wr+1:=λe=>K.o.sep.2 1 (by omega) (e▸O);have CD:bq≠wr+1+1:=λe=>K.o.sep.2 2 (by omega) (e▸O);have CE:bq≠wr+1+1+1:=λe=>K.o.sep.2 3 (by omega) (e▸O);clear z8 O k1 k2 k3 A6;have A9:=D ((C-1).toNat=C.toNat-1) (by omega);have AA:IntKind.i64.wrap (C-1)=C-1:=by simp only[Db];omega
   have BH:1<=C:=by omega
   have BI:0<=C-1:=by omega
   have BJ:C<=((aW (Q7 (mC H) kb)):Int):=by omega
   (try go_wp2_with fail)
   go_still_tail 17,(by kernel_rfl)
   clear AA;go_wp2_with fail
   go_roundw;case rel=>exact B0.o _ (Qm H kb (C-1) (1,ka)) _ f (0,0) (1,ka) (t,z) BK (by unfold Qm;rw[A9.o];exact(AC.o 1 ka C6.o.1 DJ).drew) (A5.o.set (AZ.o _ _ A5).2.2.1) (by simp) AY.o
   simp[By];omega
  obtain rfl:C=0:=by omega
  go_wp2_with fail
  go_roundw;case rel=>exact B0.o _ H S2 f (0,0) (0,0) (t,z) (by unfold Qd9;simp[C5.o]) HP A5 (by simp) AY.o
  simp[By];omega
 rename Bh=>we
 have EX:q=ws.length:=by omega
 have EY:ws.take q=ws:=by rw[EX];exact Hi
 rw[EY]at AR AM AY;have IK:¬(q:Int)<ws:=by omega
 have DK:F0 ws=ws.foldl (Yj at_ (1,U)) (m1,(0,0)):=by rw[C1.o]
 rw[<-DK]at BB;have GY:=D ((mX (F0 ws).1).length<=1000) (by
  rw[DK,Qll]
  ·have e:mX m1=mX m:=GH.o
   rw[e];exact FD.o
  intro s w;unfold Yj;simp only;repeat' split
  all_goals rfl)
 generalize F0 ws=Fq at *
 obtain⟨H,t,z⟩:=Fq;have EZ:=qh (DV.o we (GI.o we AR.o.fr));clear EX EY DK C2 DA DB BC D9 BZ AP EL A5 DC EH EN EI C1 A1;go_upto_region 41 with fail
 go_upto_region 42 with((go_at_call 261;(with_reducible refine(Qth we nb no n EZ BY.o.1 GJ).mono ?_);rintro e W4 ⟨GZ,rfl,ho,B⟩;have BU:=qh ho;have DL:=qh B;clear ho B))
 have F1:=D (∀p∈Y5 n,(0<=p.1/\p.1<n)/\(0<=p.2/\p.2<n)) (λp hp=>Qcu DT hp);have H0:(Y5 n).length<=600:=by have:=Q1s n n;rw[<-Q2i]at this;have:(Y5 n).length<=n:=this;omega
 have CF:=D (Je Q5 we S2 W4 GZ (Y5 n)) (Je.ofOwn BU rfl (Aj _) λb B=>AR.o.mem.lt b (Aa _ B));have AQ:=qh (AR.o.below DL);have BQ:=D (W4.heap[wo.heap.size]?=R (.cells #[I Z t,I Z z] 40 (0,0))) ((DL.o.block _ (Al.1 AM).1).trans AM);have IL:wo.heap.size<we:=(Al.1 AM).1;clear AR AM BU DL EZ;obtain⟨P,F2⟩:∃x,x=Y5 n:=⟨_,rfl⟩;rw[<-F2]at BB F1 CF H0;clear F2;obtain⟨H1,H2,rfl⟩:=CF.o.form;obtain⟨G0,F5⟩:∃F:List Wd->Qyb,F=λq=>q.foldl (λm p=>Ya m (at_.getD p.1.toNat 0) (at_.getD p.2.toNat 0)) H:=⟨_,rfl⟩;have CG:=qh F5;have DM:=D (V8 n by_ (1,U) m=(G0 P,t,z)) (by rw[CG.o];exact BB.o);have H3:=D (∀r,(mX (G0 (P.take r))).length<=1600) (λr=>by rw[CG.o];simp only;rw[Qh7 (λs p=>Q6o)];have:=List.length_take_le r P;have:=GY.o;have:(P.take r).length<=P:=List.length_take_le' r P;omega);rename Bh=>wq
 clear F5 BB;go_upto_region 43 with fail
 go_loopw [22] (λi wx=>∃(r:Nat) (S3:MS),r<=P.length/\i=I Z r/\Hd (Qn wo S' pb po wx (G0 (P.take r)) S3 f)/\Hd (Je Q5 we S3 wx (A H1 P H2) P)/\Hd (wx.heap[wo.heap.size]?=R (.cells #[I Z t,I Z z] 40 (0,0)))/\Hd (wo.heap.size∉S3.all)) (λi _=>P.length-(By i).toNat);case atStart=>
  have e:G0 (P.take 0)=H:=by rw[CG.o,Hs];rfl
  refine⟨0,S2,Ak _,rfl, ?_,CF.o,BQ.o,C3.o⟩;show Qn _ _ _ _ _ _ _ _;rw[e];exact AQ.o
 obtain⟨r,S3,hr,rfl,AO,F6,CH,F7⟩:=hrel;clear AQ BQ CF C3;by_cases A1:r<P.length
 ·obtain⟨bp,op,rfl,hE⟩:=Rd.elem F6.o.rd r A1
  have hE:At Q5 wr bp (op+r * 2) P[r]:=hE;have H4:=qh (F1.o P[r] (As A1));have AE:=D (G0 (P.take (r+1))=Ya (G0 (P.take r)) (at_.getD P[r].1.toNat 0) (at_.getD P[r].2.toNat 0)) (by rw[CG.o];simp only;rw[An A1,Dj];rfl);have H5:=qh (H3.o r);generalize P[r]=x at *
  obtain⟨V,x2⟩:=x;obtain⟨c1,c2,-,-⟩:=hE.word;obtain⟨⟨H6,DN⟩,⟨H7,DO⟩⟩:(0<=V/\V<n)/\(0<=x2/\x2<n):=H4.o;obtain⟨t1,i1⟩:=C0.o wr AO.o.fr V H6 DN;obtain⟨t2,i2⟩:=C0.o wr AO.o.fr x2 H7 DO;have g1:V<at_:=by rw[AL.o];exact DN
  have g2:x2<at_:=by rw[AL.o];exact DO
  have HI:=qh (And.intro i1 i2);have AE:=D (G0 (P.take (r+1))=Ya (G0 (P.take r)) (at_.getD V.toNat 0) (at_.getD x2.toNat 0)) (AE.o);generalize at_.getD V.toNat 0=k1 at *
  generalize at_.getD x2.toNat 0=k2 at *
  generalize G0 (P.take r)=mr at *
  have H8:=qh AO.o.drew;clear hE i1 i2 DN DO;go_wp2_with fail
  go_still_tail 17,(by kernel_rfl)
  go_wp2_with((go_at_call 241;(with_reducible refine(Qfz H8 k1 k2 HI.o.1 HI.o.2 (Au H5 (by decide))).mono ?_);rintro e w5 ⟨rfl,S5,hs,Y,F8⟩;have H9:=qh hs;have F9:=qh Y;have FA:=qh F8;clear hs Y F8))
  go_roundw;case rel=>
   have FB:∀c,(c=pb\/c∈S3.Fx)->c=pb\/c∈S3.all:=λc hc=>hc.imp id λe=>Aa _ (Af _ e);refine⟨r+1,S5,by omega,by go_num, ?_, ?_, ?_, ?_⟩
   ·show Qn _ _ _ _ _ _ _ _
    rw[AE.o];exact H9.o
   ·show Je _ _ _ _ _ _
    refine(F6.o.below (Ai _ _).drew).step FA (λc hc=>(FB c hc).imp (λe=>by have:=AO.o.pl;omega) id) F9.o.2.2.2
   ·show _=_
    rw[FA.o.block _ (Al.1 CH).1 (λe=>(FB _ e).elim (λe=>by have:=AO.o.pl;omega) F7)];exact CH.o
   show _∉_;exact λL=>(F9.o.2.2.2 _ L).elim F7 λe=>by have:=(Al.1 CH).1;simp at e;omega
  simp[By];omega
 have FC:r=P.length:=by omega
 have IM:¬(r:Int)<P:=by omega
 have HB:=D (G0 (P.take r)=G0 P) (by rw[FC,Hi]);clear FC A1;obtain⟨⟨r0,r1⟩,-⟩:=Zj CH;have DP:=qh (GP.o wr AO.o.fr);obtain⟨⟨s0,s1⟩,IN⟩:=Zj DP;have IP:w.heap.size+1<wr.heap.size:=(Al.1 DP).1;go_wp2_with fail
 obtain⟨⟨s0,s1⟩,-⟩:=Zj (Vs DP (I Z t) (I Z z));refine bodyPost_ret (v:=.agg #[I Z t,I Z z]) (by simp[results,results239,go_sem,s0,s1]) rfl ?_;have h0:Qn w S pb po wr (G0 P) S3 f:=((Qn.start HM CK).below CN).thru (A3.o.thru (by rw[<-HB.o];exact AO.o));refine⟨by rw[DM.o],by rw[DM.o];exact AY.o.2,S3,f, ?_⟩;rw[DM.o];refine h0.other (Vf (X:=λc=>c=w.heap.size+1) (Q1.refl _ _) rfl _ _) (λc hc=> ?_);subst hc;refine⟨λL=> ?_,by omega⟩;rcases Aq.1 L with e|L
 ·exact AX.o.1 (e▸Ae)
 rcases AO.o.fresh.2.2.2 _ L with e|e
 ·exact AX.o.2 e
 have:=A3.o.size;omega
theorem Qro(n by_ B m):(mX (V8 n by_ B m).1).length=(mX m)+(Y5 n).length:=by
 unfold V8;simp only;rw[Qh7 (λs p=>Q6o),Qll]
 ·rw[Qbm]
 intro s w;unfold Yj;simp only;repeat' split
 all_goals rfl
def Qs3(bk m a b):Yz bk m 7 a b=(V2 bk (Qd m a) (Q7 (mC m) a) b,[]):=rfl
theorem Qtf(O:Bh)(w)(AO:Bp O O w)(p0 AP)(bk:List Qy0)(AQ:Rd (.slice Jl) O [A p0 bk AP] bk)(pb f m S)(h:Zh w pb f m S)(hS:∀b∈pb::S.all,O<=b)(a b:Int)(l)(hl:Yq m l)(BO:0<=a)(ha:a<(mC m))(C2:0<=b)(H:b<(mC m).length)(AR:a.toNat∉l)(AS:Qbz bk (Q7 (mC m) a) l)(hz:((aD (Q7 (mC m) a)).length<=1000/\(aW (Q7 (mC m) a)).length<=1000)/\((aD (Q7 (mC m) b)).length<=1000/\(aW (Q7 (mC m) b)).length<=1000))(hK:(mC m).length<=1500)(hX:(mX m).length<=1000):
  Calls prog 227 #[A p0 bk AP,(pb,f),I Z 7,a,b] w λe w'=>∃v' S' l',e=.returned v'/\Qn w S pb f w' (Yz bk m 7 a b).1 S' l'/\Yp w S' w' v' (Yz bk m 7 a b).2:=by
 have AT:=qh (Qn.start h hl);have BP:a.toNat<(mC m):=by omega
 have BQ:b.toNat<(mC m):=by omega
 obtain⟨us,AU,AV,A9⟩:=h.cell BP;obtain⟨ut,AW,AX,AY⟩:=h.cell BQ;have AZ:=D (At Q4 w S.cb (S.o+a.toNat * 5) (Q7 (mC m) a)) (⟨us,AU,AV,A9.rd⟩);have B0:=D (At Q4 w S.cb (S.o+b.toNat * 5) (Q7 (mC m) b)) (⟨ut,AW,AX,AY.rd⟩);have HI:=D (Qyn (aL (Q7 (mC m) a))/\Qyn b) (by obtain⟨_,_,_,_,_,_,_,_,_,_,_,i2,_⟩:=A9.agent;exact⟨i2,by unfold Qyn;omega⟩);obtain⟨_,_,c0,-,-,-,-,-,-,-,-⟩:=h.head;have B1:=h.cells.bound;unfold maxLen at B1;obtain⟨C3,C4⟩:=B1;have B2:=qh (Qs3 bk m a b);obtain⟨i,j,BR,hE⟩:∃i j,p0=R ⟨i,j,N⟩/\At Jl O i (j+(aV (Q7 (mC m) a)).toNat * 1) (Yc bk (aV (Q7 (mC m) a))):=by
  have z:(aV (Q7 (mC m) a)).toNat<bk:=by have:=AS.1;omega
  obtain⟨i,j,Y,q⟩:=Rd.elem AQ _ z;refine⟨i,j,Y, ?_⟩;have e:Yc bk (aV (Q7 (mC m) a))=bk[(aV (Q7 (mC m) a)).toNat]:=by unfold Yc;rw[Ab,Ad z];rfl
  rw[e];exact q
 subst BR;generalize Q7 (mC m) a=x at *
 generalize Q7 (mC m) b=y at *
 obtain⟨kx,E,B,dx,A0⟩:=x;obtain⟨ky,ly,vy,dy,AA⟩:=y;simp only[aD,aW,aV,aL]at hz hE HI;obtain⟨⟨C5,C6⟩,B3,⟨BS,BT⟩,B4⟩:(0<=B/\B<bk)/\Yd (Yc bk B)=true/\(0<=E/\E<=8)/\(Yc bk B).length+(Zg (Yc bk B)).length<=l+2:=AS;simp only[Cc]at hE;have HZ:=qh hz;have HE:=qh hE;have A4:=D (pb<w/\S.cb<w) (⟨h.lt pb Ae,h.lt S.cb (Aa _ Ae)⟩);have AB:=qh h.lt;have C7:=h.blk.lt;have C8:=h.cells.blk.lt;have BU:=qh AR;have AC:=qh (And.intro B3 B4);have AD:=qh hS;have B5:=qh AO;have AE:=qh (And.intro hK hX);clear h hl AU AV A9 AW AX AY hz AR B3 B4 hE hS AO hK hX AQ;go_enter func227,ntmps227;go_upto_region 2 with(first|((go_at_call 182;(with_reducible refine(Q4w kx E B dx A0 AZ (by have:=HZ.o;omega) (by have:=HZ.o;omega)).mono ?_);rintro e w1 ⟨vs,rfl,L,H⟩;obtain⟨AF,AG,AH,AI,rfl⟩:=L.agentShape;have B6:=qh L;have A1:=qh H;clear L H)))
 have B7:=qh (Q5p.box (T:=172) B6 A1);have A5:=D (Bp w w (w1.alloc (.cells #[kx,E,B,A AF dx AG,A AH A0 AI] 172))) (A1.o.alloc A1.o.size _);have C9:=A1.o.size;have CA:w1.heap.size<(w1.alloc (.cells #[kx,E,B,A AF dx AG,A AH A0 AI] 172)).heap.size:=by simp
 generalize w1.alloc (.cells #[kx,E,B,A AF dx AG,A AH A0 AI] 172)=W2 at *
 have BV:=jC A5 c0;clear B6;go_upto_region 3 with(first|((go_at_call 182;(with_reducible refine(Q4w ky ly vy dy AA (B0.o.kb A5) (by have:=HZ.o;omega) (by have:=HZ.o;omega)).mono ?_);rintro e w3 ⟨vs,rfl,L,H⟩;obtain⟨B8,B9,BA,BB,rfl⟩:=L.agentShape;have BW:=qh L;have AJ:=qh H;clear L H)))
 have AK:=D (Bp W2 W2 (w3.alloc (.cells #[ky,ly,vy,A B8 dy B9,A BA AA BB] 172))) (AJ.o.alloc AJ.o.size _);have CB:=AJ.o.size;generalize w3.alloc (.cells #[ky,ly,vy,A B8 dy B9,A BA AA BB] 172)=W4 at *
 have BC:=qh (AT.o.below (A5.o.trans (AK.o.mono (by omega))));clear BW c0 BV;go_upto_region 5 with((go_at_call 219;(with_reducible refine(Q9r BC a BO ha BU).mono ?_);rintro e C ⟨rfl,J,F⟩;have BD:=qh J;have BE:=qh F;clear J F))
 have s:=D (∀W,Bp C C W->(W,w1.heap.size,1,E)/\(W,w1.heap.size,2,B)) (λW H=>by obtain⟨G,o,r⟩:=B7.o;have o6:=o.frame (X:=λc=>c=pb\/c=S.cb) ((Ay AK).trans (BE.o.trans (Ay H))) (λc P e=>by have:=r c P;have:=A4.o;omega);obtain⟨us,Y,q,h3,-⟩:=o6;obtain⟨_,_,_,_,_,_,rfl,-⟩:=h3.agent;obtain⟨-,q1,q2,-⟩:=Q5v q;exact⟨q1,q2⟩);have BF:=D (O,C) (B5.o.trans (BD.o.fr.below B5.o.size λc P=>AD.o c (P.elim (λe=>e▸Ae) (Aa _))));have BX:=D (∀c∈pb::(S.put a []).all,O<=c) (λc P=>by
  rcases Aq.1 P with e|P
  ·exact AD.o c (e▸Ae)
  rcases Y0 P with h|h
  ·simp at h
  exact AD.o c (Aa _ h))
 have A2:=D (∀W,Bp C C W->Calls prog 239 #[(pb,f),.pointer (R ⟨i,j+B.toNat,N⟩),E,.agg #[I Z 1,b]] W λe w'=>e=.returned (.agg #[I Z (V8 (Yc bk B) E (1,b) (Qd m a)).2.1,I Z (V8 (Yc bk B) E (1,b) (Qd m a)).2.2])/\Qyn (V8 (Yc bk B) E (1,b) (Qd m a)).2.2/\∃S' l',Qn w S pb f w' (V8 (Yc bk B) E (1,b) (Qd m a)).1 S' l'/\Q1 (λc=>c=pb\/c∈(S.put a []).all) W w'/\∀b∈S'.all,b∈(S.put a []).all\/W.heap.size<=b) (λW H=>by have U:=BD.o.below H;refine(Qsd O W (BF.o.trans (H.mono BF.o.size)) pb f (Qd m a) (S.put a []) U.mem BX (a.toNat::l) U.free i (j+B.toNat) (Yc bk B) HE AC.o.1 E b ⟨BS,BT⟩ HI.o.2 (by have:=AC.o.2;simp only[List.length_cons];omega) (by rw[Za];exact AE.o.1) AE.o.2).mono ?_;rintro e w' ⟨S',l',rfl,hi,J⟩;exact⟨rfl,hi,S',l',U.thru J,J.fr,J.fresh.2.2.2⟩);have AL:=D (∀W k,Bp C C W->Q1 (λc=>c=pb\/c∈(S.put a []).all) W k->∀W',Q1 (λc=>C.heap.size<=c) k W'->(W',w1.heap.size,1,E)/\(W',w1.heap.size,2,B)) (λW k H F W' BG=>by
  obtain⟨Y,q⟩:=s.o W H;have hw:=Ac W _ Y;have L:¬(w1=pb\/w1.heap.size∈(S.put a []).all):=λe=>by
   rcases e with e|e
   ·have:=A4.o;omega
   rcases Y0 e with h|h
   ·simp at h
   have:=AB.o _ (Aa _ h);omega
  have BH:w1.heap.size<W.heap.size:=hw;have z:¬C.heap.size<=w1:=by have:=Ac C _ (s.o C (Ai _ _)).1;simp only at this;omega
  exact⟨(BG.cell (Ap BH F.size) z 1).trans ((F.cell hw L 1).trans Y),(BG.cell (Ap BH F.size) z 2).trans ((F.cell hw L 2).trans q)⟩)
 have AM:=D ((mX (V8 (Yc bk B) E (1,b) (Qd m a)).1).length<=1000000) (by rw[Qro];have Y:=Q1s (Yc bk B) (Yc bk B);rw[<-Q2i]at Y;have q:=(Yl AC.o.1).1.1;have h3:mX (Qd m a)=mX m:=rfl;have h4:(mX m).length<=1000:=AE.o.2;have h5:(Y5 (Yc bk B)).length<=(Yc bk B):=Y;rw[h3];omega);have A6:=D (V2 bk (Qd m a) (kx,E,B,dx,A0) b=(if(V8 (Yc bk B) E (1,b) (Qd m a)).2.2 !=b then Ya (V8 (Yc bk B) E (1,b) (Qd m a)).1 b (V8 (Yc bk B) E (1,b) (Qd m a)).2.2 else(V8 (Yc bk B) E (1,b) (Qd m a)).1)) (rfl);obtain⟨⟨m',t,u⟩,BI⟩:∃r,V8 (Yc bk B) E (1,b) (Qd m a)=r:=⟨_,rfl⟩;rw[BI]at A2 AM A6;simp only at A2 AM A6;obtain⟨c1,c2⟩:=s.o C (Ai _ _);have CC:w1.heap.size<C:=Ac C _ c1;clear BI A1 A5 AK B7 BC BE AT AZ B0;have BJ:=D (∀(W k:Bh) (g:Nat) (o:Obj),Q1 (λc=>c=pb\/c∈(S.put a []).all) W k->C<=g->W.heap[g]?=R o->k.heap[g]?=R o) (λW k g o F hg ho=>(F.block g (Al.1 ho).1 (λe=>by
  rcases e with e|e
  ·have:=A4.o;omega
  rcases Y0 e with h|h
  ·simp at h
  have:=AB.o _ (Aa _ h);omega)).trans ho)
 have BK:=D (∀(W:Bh) (M:MS) (g:Nat),(∀b∈M.all,b∈(S.put a []).all\/W.heap.size<=b)->C<=g->g<W.heap.size->g∉pb::M.all/\w<=g) (λW M g L hg hl=>⟨λU=>by
  rcases Aq.1 U with e|e
  ·have:=A4.o;omega
  rcases L g e with e|e
  ·rcases Y0 e with h|h
   ·simp at h
   have:=AB.o _ (Aa _ h);omega
  omega,by omega⟩)
 have BY:=D (((C.alloc (.cells #[(),()] 40)).drew).heap[C.heap.size]?=R (.cells #[(),()] 40)) (Bg C _);go_cut [13] (λx wx=>∃(g:Nat) (S':MS) (l':List Nat),x=.pointer (R (g,0))/\Hd (wx,oC g #[t,u] 40)/\Hd (Qn w S pb f wx m' S' l')/\Hd (Qyn u))
 case first=>
  go_region_held3(λW=>(W,w1.heap.size,1,E)/\(W,w1.heap.size,2,B))
   ((first|(with_reducible first|exact v.o _ (Q1.refl _ _)|exact v.o _ (Vf (Q1.refl _ _) K.o.size _ _)|exact v.o _ (Vf (Q1.refl _ _) (Aj _) _ _)|exact v.o _ ((Q1.refl _ _).alloc _)|exact s.o _ K.o|exact s.o _ (K.o.alloc K.o.size _))|(refine s.o _ ?_;go_grown)|fail))
   (first|((go_at_call 240;(with_reducible refine jR (Vv b) λwA H=> ?_);have BL:=qh (Qf BY H);have K:=D (C,wA) (Q0 (by go_grown) H);clear H))|((go_at_call 240;(with_reducible refine jR (Vv b) λwA H=> ?_);have K:=D (C,wA) (Q0 (by go_grown) H);clear H))|((go_at_call 239;(with_reducible refine(A2.o _ K).mono ?_);rintro e w6 ⟨rfl,d,M,n,J,F,p⟩;have A7:=qh d;clear d;have A8:=qh (BJ.o _ _ _ _ F (Aj _) BL);have BM:=qh (BK.o _ _ _ p (Aj _) (Al.1 BL).1);have v:=qh (AL.o _ _ K F);have V:=qh J;obtain⟨⟨q0,q1⟩,qf⟩:=Zj A8;clear J F p))|((go_at_call 239;(with_reducible refine(A2.o _ K).mono ?_);rintro e w6 ⟨rfl,d,M,n,J,F,p⟩;have A7:=qh d;clear d;have v:=qh (AL.o _ _ K F);have V:=qh J;clear J F p))|((go_at_call 239;(with_reducible refine(A2.o _ (K.o.alloc K.o.size _)).mono ?_);rintro e w6 ⟨rfl,d,M,n,J,F,p⟩;have A7:=qh d;clear d;have v:=qh (AL.o _ _ (K.o.alloc K.o.size _) F);have V:=qh J;have A8:=qh (BJ.o _ _ _ _ F K.o.size (Bg wA _));have BM:=qh (BK.o _ _ _ p K.o.size (Al.1 (Bg wA (.cells #[(),()] 40))).1);obtain⟨⟨q0,q1⟩,qf⟩:=Zj A8;clear J F p))|fail)
  all_goals
   go_wp2
   go_meet
   first
    |exact⟨_,M,n,rfl,Vs A8 _ _,V.o.other (Vf (X:=λc=>c=_) (Q1.refl _ _) rfl _ _) (λc P=>by rw[P];exact BM.o),A7.o⟩
    |exact⟨_,M,n,rfl,Bg w6 _,V.o.below ((Ai _ _).alloc (Aj _) _),A7.o⟩
 obtain⟨g,M,n,rfl,HG,V,BZ⟩:=hcut;obtain⟨⟨q0,q1⟩,-⟩:=Zj HG;by_cases BN:u=b
 ·subst BN
  have A3:=D (Yz bk m 7 a u=(m',[])) (by rw[B2.o,A6.o];simp);go_wp2
  go_ret;exact⟨_,M,n,rfl,by rw[A3.o];exact V.o.below ((Ai _ _).alloc (Aj _) _),by rw[A3.o];exact Je.ofOwn (Q0d (t:=Z7) (T:=146) wc wc rfl rfl) rfl V.o.size (λb U=>V.o.mem.lt b (Aa _ U))⟩
 have C0:(u !=b)=true:=by simpa using BN
 have A3:=D (Yz bk m 7 a b=(Ya m' b u,[])) (by rw[B2.o,A6.o,C0];simp);go_wp2_with((go_at_call 241;(with_reducible refine(Qfz V b u HI.o.2 BZ AM).mono ?_);rintro e w8 ⟨rfl,S8,J,F,C1⟩;have AN:=qh J;clear J F C1))
 go_ret;exact⟨_,S8,n,rfl,by rw[A3.o];exact AN.o.below ((Ai _ _).alloc (Aj _) _),by rw[A3.o];exact Je.ofOwn (Q0d (t:=Z7) (T:=146) w8 w8 rfl rfl) rfl AN.o.size (λb U=>AN.o.mem.lt b (Aa _ U))⟩
end Go.Proofs.YtcjngpfigpglfaaGreatDoor
