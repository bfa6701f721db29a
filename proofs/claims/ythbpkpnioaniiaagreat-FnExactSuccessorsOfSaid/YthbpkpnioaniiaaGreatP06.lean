import Derived.Test.YthbpkpnioaniiaaGreatP05
set_option maxHeartbeats 40000000
set_option maxRecDepth 100000
set_option linter.all false
namespace Go.Proofs.YthbpkpnioaniiaaGreat
open Go.RowKit Go.Proofs.Tryz
open Go.Value renaming int->I,slice->A
open Go.IntKind renaming i64->Z
open Option renaming none->N,some->R
open Bool renaming true->Bn,false->Bm,false_and->Cn
open Go renaming World->Bh,Calls->Bq,maxLen->Bp,heap_alloc_new->Bg,bodyPost_ret->Ca,Program->Eq,TypeId->Cf,TypeInfo->Gt,Value->Bk
open Go.Builtin renaming append->Ey
open Go.Callee renaming builtin->Ex
open Go.Instr renaming index->Gj
open Go.Region renaming wanted->Eb
open Go.RowKit renaming Below->Bi,intOf->Bv
open List renaming not_mem_nil->Ed,range->Bz,range_succ->Ea,flatMap_append->Ek,length_append->Bo
open Nat renaming reduceAdd->Bj,not_lt_zero->Da,mul_one->Cb,lt_or_eq_of_le->Il,le_of_lt_succ->Im
theorem Q7i(w:Bh)(pb B:Nat)(m:Qqp)(S:MS)(h:Z8 w pb B m S)(i:Int)(M:0<=i)(O:i<(mC m).length):
  Bq prog 139 #[.pointer (R ⟨pb,B,N⟩),I Z i] w λe w'=>e=.returned (.tuple #[])/\Z8 w' pb B (Qg m i) (S.put i [])/\Q1 (λc=>c=pb\/c=S.cb) w w'/\Q9 pb B 5 w w':=by
 have C:=qh h;obtain⟨px,cx,P,T,-,-,-,G,-,-,-⟩:=h.head;have H:=qh G;have E:i.toNat<(mC m).length:=by omega
 obtain⟨us,U,J,K⟩:=h.cell E;obtain⟨V,W,X,Y,a,b,rfl,-⟩:=K.agent;obtain⟨d,f,g,j,k⟩:=Q4b J;have F:=h.cells.bound;have l:=λq=>h.blk.free q;have n:=λq=>h.cells.blk.free q;obtain⟨L,o⟩:=h.ne;unfold Bp at F;obtain⟨p,r⟩:=F;have s:=h.blk.lt;have t:=h.cells.blk.lt;go_enter func139,ntmps139;go_wp2_with fail
 go_still_tail 11,(by kernel_rfl)
 go_wp2_with fail
 go_end0
 exact⟨rfl,(C.o.put5 E (by unfold Qqm;omega) (Ow.freeCell H.o) (by simp) (by simp)).drew,((C.o.fr5 _ _ _ _ _ _).setCell (.inl rfl) _).drew,((Q9.of_frame (Vz _ _ _ _ _ _ _ _) L B 5).set (B+1) (by omega) _).drew⟩
theorem Qjt(w:Bh)(pb B:Nat)(m:Qqp)(S:MS)(h:Z8 w pb B m S)(k l v:Int)(C E:Option Addr)(F H J K:Nat)(y:Qb)(G:List Nat)(A7:0<=mF m)(hf:mF m<(mC m).length)
  (a:Ow Q3 w [I Z k,I Z l,I Z v,A C F H,A E J K] y G) (d:G.Nodup) (g:∀b∈G,b∉pb::S.all):
  Bq prog 192 #[.pointer (R ⟨pb,B,N⟩),.agg #[I Z k,I Z l,I Z v,A C F H,A E J K]] w λe w'=>e=.returned (I Z (mF m))/\Z8 w' pb B (Qj m y) (S.put (mF m) G)/\Q1 (λc=>c=pb\/c=S.cb) w w'/\Q9 pb B 5 w w':=by
 have j:=qh h;have T:=qh a;have n:=qh d;have U:=qh g;obtain⟨px,cx,p,r,-,-,-,A8,-,-,-⟩:=h.head;have M:(mF m).toNat<(mC m).length:=by omega
 obtain⟨us,s,O,P⟩:=h.cell M;obtain⟨A9,AA,AB,AC,Gd,Gw,rfl,-,-,-,-,-,t⟩:=P.agent;obtain⟨u,x,z,u3,u4⟩:=Q4b O;have A0:=qh t;have V:=h.cells.bound;have AD:=λq=>h.blk.free q;have A1:=λq=>h.cells.blk.free q;obtain⟨A2,AE⟩:=h.ne;unfold Bp at V;obtain⟨AF,AG⟩:=V;have A3:=h.blk.lt;have A4:=h.cells.blk.lt;go_enter func192,ntmps192;go_upto_region 3 with fail
 have L:=qh ((j.o.putF (f:=aV (Q7 (mC m) (mF m))) A0.o).kept (Below.alloc (Ai _ _) (Aj _) (.cells #[I Z k,I Z l,I Z v,A C F H,A E J K] 134)));have W:=qh ((Ze w pb (B+1) (I Z (aV (Q7 (mC m) (mF m))))).alloc (.cells #[I Z k,I Z l,I Z v,A C F H,A E J K] 134));have A5:=qh (((Q9.refl pb B 5 w).set (B+1) (by omega) (I Z (aV (Q7 (mC m) (mF m))))).fr ((Q1.refl (λ_=>False) _).alloc (.cells #[I Z k,I Z l,I Z v,A C F H,A E J K] 134)) (λh=>h));obtain⟨⟨x0,x1,x2,x3,x4⟩,-⟩:=Y0 (Q09 w ⟨pb,B+1,N⟩ (I Z (aV (Q7 (mC m) (mF m)))) #[I Z k,I Z l,I Z v,A C F H,A E J K] 134);generalize (w.setCell ⟨pb,B+1,N⟩ (I Z (aV (Q7 (mC m) (mF m))))).alloc (.cells #[I Z k,I Z l,I Z v,A C F H,A E J K] 134)=W2 at *
 obtain⟨_,_,X,r,-,-,-,-,-,-,-⟩:=L.o.head;obtain⟨us,s,O,P⟩:=L.o.cell (i:=mF m) M;obtain⟨_,_,_,_,_,_,rfl,-⟩:=P.agent;obtain⟨u,x,z,u3,u4⟩:=Q4b O;have A1:=λq=>L.o.cells.blk.free q;have A3:=L.o.blk.lt;have A4:=L.o.cells.blk.lt;have p:W2.cell? ⟨pb,B,N⟩=R (A (R ⟨S.cb,S.o,N⟩) (mC m).length S.cap):=X;clear X;go_wp2_with fail
 go_still_tail 7,(by kernel_rfl)
 go_wp2_with fail
 go_ret;have A6:=T.o.frame W.o (λb Y=>⟨T.o.lt b Y,λe=>U.o b Y (e▸Ae)⟩);exact⟨rfl,((L.o.putCell (i:=mF m) M A6 n.o U.o).drew),(W.o.mono λ_=> .inl).trans ((L.o.fr5 _ _ _ _ _ _).drew),(A5.o.fr (Vz _ _ _ _ _ _ _ _) A2).drew⟩
theorem Qlh(w:Bh)(pb B:Nat)(m:Qqp)(S:MS)(h:Z8 w pb B m S)(L:0<=mF m)(M:mF m<(mC m).length):
  Bq prog 225 #[.pointer (R ⟨pb,B,N⟩)] w λe w'=>e=.returned (.agg #[I Z 2,I Z (mF m)])/\Z8 w' pb B (Qj m (13,0,0,[],[])) (S.put (mF m) [])/\Q1 (λc=>c=pb\/c=S.cb) w w'/\Q9 pb B 5 w w':=by
 have G:Z8 (w.alloc (.cells #[I Z 0,I Z 0] 40)) pb B m S:=h.kept (by go_grown);have O:=qh G;have P:D (Q1 (λc=>c=pb\/c=S.cb) w (w.alloc (.cells #[I Z 0,I Z 0] 40))):=qh ((Q1.refl _ _).alloc _);have T:=qh ((Q9.refl pb B 5 w).fr ((Q1.refl (λ_=>False) _).alloc (.cells #[I Z 0,I Z 0] 40)) (λh=>h));have H:=qh (Bg w (.cells #[I Z 0,I Z 0] 40));have i:=G.lt;have E:D (w.heap.size≠pb/\w.heap.size≠S.cb/\∀b∈S.all,b≠w.heap.size):=qh (by
  have F:=h.lt;refine⟨λe=> ?_,λe=> ?_,λb U e=> ?_⟩
  ·have:=F pb Ae;omega
  ·have:=F S.cb (Aa _ Ae);omega
  ·have:=F b (Aa _ U);omega)
 go_enter func225,ntmps225;go_upto_region 1 with fail
 generalize w.alloc (.cells #[I Z 0,I Z 0] 40)=W2 at *
 go_wp2_with(go_at_call 192;refine(Qjt W2 pb B m S O.o 13 0 0 N N 0 0 0 0 (13,0,0,[],[]) [] L M (Ow.mkAgent (by unfold Qqm;omega) (by unfold Qqm;omega) (by unfold Qqm;omega) (Ow.nil _) (Ow.nil _)) (by simp) (by simp)).mono ?_;rintro e j ⟨rfl,F,J,V⟩;have W:=qh F;have Y:=qh J;have a:=qh (T.o.trans V);have K:=(J.block w.heap.size (Al.1 H.o).1 (by rintro(e|e);exact E.o.1 e;exact E.o.2.1 e)).trans H.o;obtain⟨⟨k,l⟩,n⟩:=Za K;have d:=qh K)
 have f:=Vm d.o (I Z 2) (I Z (mF m));obtain⟨⟨s0,s1⟩,-⟩:=Za f;refine Ca (v:=.agg #[I Z 2,I Z (mF m)]) (by simp[results,results225,go_sem,s0,s1]) rfl ?_;have g:w.heap.size∉pb::(S.put (mF m) []).all:=by
  intro C;rcases Aq.1 C with e|C
  ·exact E.o.1 e
  ·rcases Zf C with C|C
   ·simp at C
   ·exact E.o.2.2 _ C rfl
 exact⟨rfl,W.o.set2 g _ _,Qav (P.o.trans Y.o) (Aj _) _ _,a.o.fr (V1 (X:=λc=>c=w.heap.size) (Q1.refl _ _) rfl _ _) (Ne.symm E.o.1)⟩
theorem Q5l{P:Eq}(w:Bh){e:Ty}(C L G:Cf)(i:Gt)(z:Bk)(H:Nat)(O:P.underlying C=R (.slice G))(J:P.info? G=R i)(S:i.zero=R z)
  (T:i.size=e.sz) (U:i.bytes=H) (V:z.cells.size=e.sz) (K:H<=200) {v:Bk} {xs:List e.den} {y:e.den} {vs:List Bk} {F:List Nat} (g c:Nat)
  (W:Ow (.slice e) w [v] xs F) (X:F.Nodup) (M:Ow e w vs y []) (Y:Qqw w g 0 vs) (a:∀u∈vs,u.oneCell'=Bn) (d:xs.length+1<=1000000000):
  ∃(p:Option Addr) (E:Nat) (w':Bh) (B:List Nat),(Builtin.append_ #[C,C] L #[v,A (R ⟨g,0,N⟩) 1 c]).run P w=.ok (A p (xs.length+1) E) w'/\Ow (.slice e) w' [A p (xs.length+1) E] (xs++ [y]) B/\B.Nodup/\(∀b∈B,b∈F\/b=w.heap.size)/\Q1 (λb=>b∈F) w w':=by
 have f:=M.length
 obtain⟨p,E,w',B,k,l,m,n,o⟩:=Q3u (P:=P) w (e:=e) C L G i z H O J S T U V K (xs:=xs) (ys:=[y]) (Gs:=[[]]) W X ⟨g,0,N⟩ 1 c rfl vs (by rw[f];simp)
  (λj u q=>by
   obtain⟨r,s⟩:=List.getElem?_eq_some_iff.1 q;have:=Y j r;have t:(⟨g,0,N⟩:Addr).add j=⟨g,0+j,N⟩:=by unfold Addr.add;split<;>simp_all
   rw[t,this,s]) a rfl
  (λi J=>by
   obtain rfl:i=0:=by simpa using J
   have:(vs.drop (0 * e.sz)).take e.sz=vs:=by rw[Nat.zero_mul,List.drop_zero,Ao (by omega)]
   rw[this];exact M) (by simp) (by simp) (by omega) d
 exact⟨p,E,w',B,k,l,m,λb K=>(n b K).elim .inl λh=>h.elim (λh=>by simp at h) .inr,o⟩
theorem Y6{P:Eq}(w:Bh){H:Array Oper}{o:Oper}{a:Act}{K:Act->Bh->Prop}{Q:Exit->Act->Bh->Prop}{E:Prop}(J:o.guard=N)(s x:Operand)(C:Cf)
  (L:o.op=Op.call {callee:=Ex Ey,args:=#[s,x],argTypes:=#[C,C]}) {e:Ty} (eT:Cf) (i:Gt) (z:Bk) (bytes:Nat) (ht:P.underlying C=R (.slice eT)) (hi:P.info? eT=R i) (hz:i.zero=R z)
  (hsize:i.size=e.sz) (hby:i.bytes=bytes) (hzs:z.cells.size=e.sz) (hb:bytes<=200) {v:Bk} {xs:List e.den} {y:e.den} {vs:List Bk} {F:List Nat} (g c:Nat) (hv:a.eval s=v) (hu:a.eval x=A (R ⟨g,0,N⟩) 1 c)
  (hown:Ow (.slice e) w [v] xs F) (hF:F.Nodup) (hvs:Ow e w vs y []) (hcells:Qqw w g 0 vs) (h1:∀u∈vs,u.oneCell'=Bn) (hlen:xs.length+1<=1000000000)
  (hK:∀p G w' B,Ow (.slice e) w' [A p (xs.length+1) G] (xs++ [y]) B->B.Nodup->(∀b∈B,b∈F\/b=w.heap.size)->Q1 (λb=>b∈F) w w'->K (a.put o.dst (A p (xs.length+1) G)) w'):if Eb o (yielded H a.tmps)=Bn then Oper.wp P o a w K Q else E:=by
 have M:Eb o (yielded H a.tmps)=Bn:=by simp[Eb,J]
 rw[if_pos M];obtain⟨p,G,w',B,O,S,T,U,V⟩:=Q5l (P:=P) w C o.type eT i z bytes ht hi hz hsize hby hzs hb g c hown hF hvs hcells h1 hlen;unfold Oper.wp;simp[execOp,L,resolve,invoke,builtin,hv,hu,O,Result.andThen];exact hK p G w' B S T U V
theorem Q0t{P:Eq}(w:Bh){G:Array Oper}{rest:List Oper}{o:Oper}{a:Act}{Q:Exit->Act->Bh->Prop}(H:o.guard=N)(s x:Operand)(C:Cf)
  (J:o.op=Op.call {callee:=Ex Ey,args:=#[s,x],argTypes:=#[C,C]}) {e:Ty} (eT:Cf) (i:Gt) (z:Bk) (bytes:Nat) (ht:P.underlying C=R (.slice eT)) (hi:P.info? eT=R i) (hz:i.zero=R z)
  (hsize:i.size=e.sz) (hby:i.bytes=bytes) (hzs:z.cells.size=e.sz) (hb:bytes<=200) {v:Bk} {xs:List e.den} {y:e.den} {vs:List Bk} {F:List Nat} (g c:Nat) (hv:a.eval s=v) (hu:a.eval x=A (R ⟨g,0,N⟩) 1 c)
  (hown:Ow (.slice e) w [v] xs F) (hF:F.Nodup) (hvs:Ow e w vs y []) (hcells:Qqw w g 0 vs) (h1:∀u∈vs,u.oneCell'=Bn) (hlen:xs.length+1<=1000000000)
  (hK:∀p E w' B,Ow (.slice e) w' [A p (xs.length+1) E] (xs++ [y]) B->B.Nodup->(∀b∈B,b∈F\/b=w.heap.size)->Q1 (λb=>b∈F) w w'->wpList P G Q rest (a.put o.dst (A p (xs.length+1) E)) w'):wpList P G Q (o::rest) a w:=by
 refine wpList_plain H λK L=> ?_;obtain⟨p,E,w',B,M,O,S,T,U⟩:=Q5l (P:=P) w C o.type eT i z bytes ht hi hz hsize hby hzs hb g c hown hF hvs hcells h1 hlen;unfold Oper.wp;simp[execOp,J,resolve,invoke,builtin,hv,hu,M,Result.andThen];exact L _ _ (hK p E w' B O S T U)
theorem Qj1{a b:Int}:∀u∈ [I Z a,I Z b],u.oneCell'=Bn:=by
 intro u B;simp only[List.mem_cons,Ed,or_false]at B;rcases B with rfl|rfl<;>rfl
theorem Qi2{a b c d:Int}:∀u∈ [I Z a,I Z b,I Z c,I Z d],u.oneCell'=Bn:=by
 intro u B;simp only[List.mem_cons,Ed,or_false]at B;rcases B with rfl|rfl|rfl|rfl<;>rfl
theorem Ow.word{w:Bh}{a b:Int}(B:Qqm a)(C:Qqm b):Ow Q4 w [I Z a,I Z b] (a,b) []:=⟨[_],[_],[],[],rfl,rfl,⟨rfl,B,rfl⟩,⟨rfl,C,rfl⟩⟩
theorem Ow.link{w:Bh}{a b c d:Int}(B:Qqm a)(C:Qqm b)(E:Qqm c)(F:Qqm d):Ow Qu w [I Z a,I Z b,I Z c,I Z d] ((a,b),(c,d)) []:=⟨[_,_],[_,_],[],[],rfl,rfl,Ow.word B C,Ow.word E F⟩
theorem Q5e{P:Eq}{C:Array Oper}{o:Oper}{a:Act}{w:Bh}{K:Act->Bh->Prop}{Q:Exit->Act->Bh->Prop}{E:Prop}(F:o.guard=N)(f:Nat)(xs:Array Operand)(G:Array Cf)(J:o.op=Op.call {callee:=Callee.value (Operand.func f),args:=xs,argTypes:=G})(args:Array Bk)(hrun:(execOp a.eval o).run P w=.ok (.enter f args) w)(v:Bk)
  (hc:Bq P f args w λe w'=>e=.returned v/\w=w') (hK:K (a.put o.dst v) w):if Eb o (yielded C a.tmps)=Bn then Oper.wp P o a w K Q else E:=by
 have B:Eb o (yielded C a.tmps)=Bn:=by simp[Eb,F]
 rw[if_pos B];unfold Oper.wp;rw[hrun];simp only[Oper.upon];exact hc.mono λe w' ⟨H,B⟩=>by subst H;subst B;exact hK
theorem Qq{F:Bh->Prop}{W:Bh}(h:∀B,B=W->F B):F W:=h W rfl
theorem Q9f{w:Bh}{g:Nat}{T:Cf}{a:Int}(h:w.heap[g]?=R (.cells #[I Z a] T (0,0)))(B:Qqm a):Ow (.slice .int) w [A (R ⟨g,0,N⟩) 1 1] [a] [g]:=
 ⟨_,rfl,.inr ⟨g,0,1,_,T,[[]],rfl,Aj _,by simp[Bp],h,by simp[Ty.sz],by simp,rfl,λi C=>by
  match i,C with
  |0,_=>exact⟨rfl,B,rfl⟩⟩⟩
theorem Q43{w:Bh}{g:Nat}{T:Cf}{a b:Int}(h:w.heap[g]?=R (.cells #[I Z a,I Z b] T (0,0)))(B:Qqm a)(C:Qqm b):Ow (.slice Q4) w [A (R ⟨g,0,N⟩) 1 1] [(a,b)] [g]:=
 ⟨_,rfl,.inr ⟨g,0,1,_,T,[[]],rfl,Aj _,by simp[Bp],h,by simp[Ty.sz],by simp,rfl,λi E=>by
  match i,E with
  |0,_=>exact Ow.word B C⟩⟩
theorem Q2b{V:Bh}{g:Nat}{H:Cf}{J K L M O:Bk}(P:V.heap[g]?=R (.cells #[J,K,L,M,O] H (0,0)))(B v1 C E F:Bk)(a b:Array Bk)(T U:Cf):
  ((((((((V.setCell ⟨g,0,N⟩ B).setCell ⟨g,1,N⟩ v1).setCell ⟨g,2,N⟩ C).setCell ⟨g,3,N⟩ E).setCell ⟨g,4,N⟩ F).alloc (.cells a T)).alloc (.cells b U)).drew).heap[V.heap.size]?=R (.cells a T (0,0))/\
  ((((((((V.setCell ⟨g,0,N⟩ B).setCell ⟨g,1,N⟩ v1).setCell ⟨g,2,N⟩ C).setCell ⟨g,3,N⟩ E).setCell ⟨g,4,N⟩ F).alloc (.cells a T)).alloc (.cells b U)).drew).heap[V.heap.size+1]?=R (.cells b U (0,0))/\
  ((((((((V.setCell ⟨g,0,N⟩ B).setCell ⟨g,1,N⟩ v1).setCell ⟨g,2,N⟩ C).setCell ⟨g,3,N⟩ E).setCell ⟨g,4,N⟩ F).alloc (.cells a T)).alloc (.cells b U)).drew).heap[g]?=R (.cells #[B,v1,C,E,F] H (0,0))/\
  Q1 (λc=>c=g) V ((((((((V.setCell ⟨g,0,N⟩ B).setCell ⟨g,1,N⟩ v1).setCell ⟨g,2,N⟩ C).setCell ⟨g,3,N⟩ E).setCell ⟨g,4,N⟩ F).alloc (.cells a T)).alloc (.cells b U)).drew):=by
 have S:=Q22 P B v1 C E F;have Y:=Q1c (X:=λc=>c=g) (Q1.refl _ V) (o:=0) (p:=1) (q:=2) (r:=3) (s:=4) rfl B v1 C E F;have d:(((((V.setCell ⟨g,0,N⟩ B).setCell ⟨g,1,N⟩ v1).setCell ⟨g,2,N⟩ C).setCell ⟨g,3,N⟩ E).setCell ⟨g,4,N⟩ F).heap.size=V.heap.size:=by simp[World.setCell]
 generalize ((((V.setCell ⟨g,0,N⟩ B).setCell ⟨g,1,N⟩ v1).setCell ⟨g,2,N⟩ C).setCell ⟨g,3,N⟩ E).setCell ⟨g,4,N⟩ F=W at *
 have G:=Jn W a b T U;rw[d]at G;exact⟨G.1,G.2,Qw (Qw S),((Y.alloc _).alloc _).drew⟩
theorem Q6i(w:Bh)(a b c d:Int):Bq prog 261 #[.agg #[I Z a,I Z b],.agg #[I Z c,I Z d]] w λe w'=>e=.returned (.bool (Q03 (a,b) (c,d)))/\Bi w.heap.size w w':=by
 go_enter func261,ntmps261;go_wp2;all_goals(go_ret;exact⟨Q2 (by simp_all[Q03]),by go_grown⟩)
theorem Qbt(w:Bh)(p:Option Addr)(c:Nat)(n:List Qb)(a s:Int)(h:Rd (.slice Q3) w [A p n.length c] n)(L:n.length<=Bp):
  Bq prog 159 #[A p n.length c,.agg #[I Z a,I Z s]] w λe w'=>e=.returned (.bool (Q0l n (a,s)))/\Bi w.heap.size w w':=by
 unfold Bp at L;have H:=qh h;clear h;by_cases q0:0<=a;rotate_left
 ·have b0:decide (0<=a)=Bm:=by simpa using q0
  have B:D (Q0l n (a,s)=Bm):=qh (by have:Qqz a 0 ((n.length:Int)-1)=Bm:=Q0h.2 (by omega);simp only[Q0l,this,Cn]);go_enter func159,ntmps159;go_wp2_with fail
  go_quiet(fail)
  go_wp2;go_ret;exact⟨Q2 B.o.symm,Q6 (by go_grown) _⟩
 by_cases q1:a<n.length;rotate_left
 ·have b0:decide (0<=a)=Bn:=by simpa using q0
  have M:decide (a<(n.length:Int))=Bm:=by simpa using q1
  have B:D (Q0l n (a,s)=Bm):=qh (by have:Qqz a 0 ((n.length:Int)-1)=Bm:=Q0h.2 (by omega);simp only[Q0l,this,Cn]);go_enter func159,ntmps159;go_wp2_with fail
  go_quiet(fail)
  go_wp2;go_ret;exact⟨Q2 B.o.symm,Q6 (by go_grown) _⟩
 have J:a.toNat<n.length:=by omega
 obtain⟨M,Y,rfl,G⟩:=Rd.elem H.o a.toNat J;generalize hx:n[a.toNat]=x at G;obtain⟨k,l,v,d,ws⟩:=x;obtain⟨b,f,g,i,⟨O,P,S,T,K⟩,-,-,⟨w1,w2,-⟩⟩:=G.agent;unfold Bp at w2;have U:=qh hx;simp only[Ty.sz,Bj]at K;have V:=Ac w _ K;simp only at V;clear G hx H O P S T;have B:D (Q0l n (a,s)=(decide (0<=s) && decide (s<ws.length))):=qh (by
  have:Qqz a 0 ((n.length:Int)-1)=Bn:=Ql.2 (by omega);simp only[Q0l,this,Bool.true_and,Q7,Qx J,U.o,aW,Qqz];have:decide (s<=(ws.length:Int)-1)=decide (s<(ws.length:Int)):=by rw[decide_eq_decide];omega
  rw[this,show decide (0<=a)=Bn by simpa using q0,show decide (a<=(n.length:Int)-1)=Bn by simp;omega];rfl)
 have j:decide (0<=a)=Bn:=by simpa using q0
 have m:decide (a<(n.length:Int))=Bn:=by simpa using q1
 by_cases E:0<=s;rotate_left
 ·have W:decide (0<=s)=Bm:=by simpa using E
  have C:D ((decide (0<=s) && decide (s<(ws.length:Int)))=Bm):=qh (by simp[E]);go_enter func159,ntmps159;go_wp2_with fail
  go_quiet(fail)
  go_wp2;go_ret;exact⟨Q2 (by rw[B.o,C.o]),Q6 (by go_grown) _⟩
 have W:decide (0<=s)=Bn:=by simpa using E
 by_cases F:s<ws.length
 ·have X:decide (s<(ws.length:Int))=Bn:=by simpa using F
  have C:D ((decide (0<=s) && decide (s<(ws.length:Int)))=Bn):=qh (by simp[E,F]);go_enter func159,ntmps159;go_wp2_with fail
  go_quiet(fail)
  go_wp2;go_ret;exact⟨Q2 (by rw[B.o,C.o]),Q6 (by go_grown) _⟩
 ·have X:decide (s<(ws.length:Int))=Bm:=by simpa using F
  have C:D ((decide (0<=s) && decide (s<(ws.length:Int)))=Bm):=qh (by simp[F]);go_enter func159,ntmps159;go_wp2_with fail
  go_quiet(fail)
  go_wp2;go_ret;exact⟨Q2 (by rw[B.o,C.o]),Q6 (by go_grown) _⟩
theorem Qa0(w:Bh)(b o:Nat)(n:List Qb)(h:At Je w b o n)(a s:Int)(g:0<=a)(i:a<n.length)(j:0<=s)(C:s<(aW (Q7 n a)).length):
  Bq prog 158 #[.pointer (R ⟨b,o,N⟩),.agg #[I Z a,I Z s]] w λe w'=>e=.returned (.agg #[I Z (Qt n (a,s)).1,I Z (Qt n (a,s)).2])/\Bi w.heap.size w w':=by
 obtain⟨m,p,F,-,-,K⟩:=h.net;have L:a.toNat<n.length:=by omega
 obtain⟨q,r,rfl,M⟩:=Rd.elem K a.toNat L;have G:Q7 n a=n[a.toNat]:=Qx L;rw[G]at C;generalize hx:n[a.toNat]=x at *
 obtain⟨k,l,v,d,ws⟩:=x;obtain⟨t,u,z,cw,⟨-,-,-,-,E⟩,-,-,⟨-,-,O⟩⟩:=M.agent;have C:s<ws.length:=C;have P:s.toNat<ws.length:=by omega
 obtain⟨b2,o2,rfl,S⟩:=Rd.elem O s.toNat P;have W:D (Qt n (a,s)=ws[s.toNat]):=qh (by unfold Qt;rw[G];show ws.getD s.toNat (0,0)=_;rw[Ab,Ad P];rfl);generalize ws[s.toNat]=y at *
 obtain⟨T,U⟩:=y;obtain⟨f0,f1,-,-⟩:=S.word;simp only[Ty.sz,Bj]at f0 f1 E;have X:=Ac w _ F;have Y:=Ac w _ E;have c:=Ac w _ f0;simp only at X Y c;clear h K M O S G hx;go_enter func158,ntmps158;go_upto_region 1 with fail
 refine Qq ?_;intro H J;have B:D (Bi w.heap.size w H):=qh (by rw[J];go_grown);obtain⟨f,V⟩:D (H.heap[w.heap.size]?=R (.cells #[I Z a,I Z s] 185 (0,0)))/\D (H.heap[w.heap.size+1]?=R (.cells #[I Z 0,I Z 0] 185 (0,0))):=by rw[J];exact⟨(Jn w _ _ _ _).1,(Jn w _ _ _ _).2⟩
 clear J;obtain⟨⟨p0,p1⟩,-⟩:=Za f.o;obtain⟨⟨r0,r1⟩,rf⟩:=Za V.o;have F:=(Am B.o).cell _ _ F;have E:=(Am B.o).cell _ _ E;have f0:=(Am B.o).cell _ _ f0;have f1:=(Am B.o).cell _ _ f1;have C:s<ws.length:=by omega
 go_still_tail 13,(by kernel_rfl)
 go_wp2_with fail
 obtain⟨⟨s0,s1⟩,-⟩:=Za (Vm V.o (I Z T) (I Z U));refine Ca (v:=.agg #[I Z T,I Z U]) (by simp[results,results158,go_sem,s0,s1]) rfl ⟨by rw[W.o], ?_⟩;exact(Qbf B.o (Nat.le_succ _) _ _).drew
theorem Q0e{P:Eq}(w:Bh){H:Array Oper}{rest:List Oper}{o:Oper}{a:Act}{Q:Exit->Act->Bh->Prop}(K:o.guard=N)(s x:Operand)(E:Cf)
  (L:o.op=Op.call {callee:=Ex Ey,args:=#[s,x],argTypes:=#[E,E]}) {t:Ty} (hf:t.flat=Bn) (hs0:0<t.sz) (B:Nat) (e:Cf) (i:Gt) (z:Bk) (bytes:Nat) (ht:P.underlying E=R (.slice e)) (hi:P.info? e=R i) (hz:i.zero=R z)
  (hsize:i.size=t.sz) (hby:i.bytes=bytes) (hzs:z.cells.size=t.sz) (G:bytes<=100) {v:Bk} {xs:List t.den} (y:t.den) (vs:Array Bk) (hv:a.eval s=v) (hu:a.eval x=A (R ⟨w.heap.size,0,N⟩) 1 1) (hown:Qqe t e B w v xs) (hfit:Q4e t y) (hcur:vs.toList=Q8p t [y]) (hlen:xs.length+1<=1000000000) (hB:B<=w.heap.size)
  (hK:∀F w',Qqe t e B w' F (xs++ [y])->Bi B w w'->(∀b,b<w.heap.size->v.ownBlock≠R b->w'.heap[b]?=w.heap[b]?)->wpList P H Q rest (a.put o.dst F) w'):wpList P H Q (o::rest) a (w.alloc (.cells vs e)):=by
 have C:Bi w.heap.size w (w.alloc (.cells vs e)):=(Ai _ _).alloc (Aj _) _;have M:Rd (.slice t) (w.alloc (.cells vs e)) [A (R ⟨w.heap.size,0,N⟩) 1 1] [y]:=(Qqe.of_block (t:=t) (xs:=[y]) (B:=0) (Bg w _) (Ak _) hf hcur (Q2d hfit) (by simp[Bp])).rd hf;refine Qi (w.alloc (.cells vs e)) K s x E L hf hs0 B e i z bytes ht hi hz hsize hby hzs G hv hu (hown.kept C) M (by simpa using hlen) (by simp;omega) ?_;intro F w' O J;refine hK F w' O ((hown.kept C).grew (C.mono hB) (Au hB C.size) J) λb G S=> ?_;rw[J.block b (by simp;omega) (λe=>S e.symm),C.block b G]
theorem Q0y{P:Eq}(w:Bh){F:Array Oper}{rest:List Oper}{o:Oper}{a:Act}{Q:Exit->Act->Bh->Prop}(G:Eb o (yielded F a.tmps)=Bn)(s x:Operand)(C:Cf)
  (H:o.op=Op.call {callee:=Ex Ey,args:=#[s,x],argTypes:=#[C,C]}) {t:Ty} (hf:t.flat=Bn) (hs0:0<t.sz) (B:Nat) (e:Cf) (i:Gt) (z:Bk) (bytes:Nat) (ht:P.underlying C=R (.slice e)) (hi:P.info? e=R i) (hz:i.zero=R z)
  (hsize:i.size=t.sz) (hby:i.bytes=bytes) (hzs:z.cells.size=t.sz) (hb:bytes<=100) {v u:Bk} {xs ys:List t.den} (hv:a.eval s=v) (hu:a.eval x=u) (hown:Qqe t e B w v xs) (hrd:Rd (.slice t) w [u] ys) (hlen:xs.length+ys.length<=1000000000) (hB:B<=w.heap.size)
  (hK:∀E w',Qqe t e B w' E (xs++ys)->w.grownBy w' v.ownBlock->wpList P F Q rest (a.put o.dst E) w'):wpList P F Q (o::rest) a w:=by
 refine wpList_step λK J=> ?_;rw[if_pos G];obtain⟨E,w',L,M,O⟩:=Q3d (P:=P) w hf hs0 B C o.type e i z bytes ht hi hz hsize hby hzs hb hown hrd hlen hB;unfold Oper.wp;simp[execOp,H,resolve,invoke,builtin,hv,hu,L,Result.andThen];exact J _ _ (hK E w' M O)
def Q08(n:List Qb)(j q:Nat):List Wd:=(Bz j).flatMap (Q0i n)++(Q0i n j).take q
theorem Qe6(n:List Qb):Q08 n 0 0=[]:=by simp[Q08]
theorem Qea{n:List Qb}{j q:Nat}(h:q<(aW (Qn n j)).length):Q08 n j (q+1)=Q08 n j q++ [((j:Int),(q:Int))]:=by
 unfold Q08;rw[List.append_assoc,An (by rw[V0];exact h)];simp[Q0i]
theorem Qd7{n:List Qb}{j q:Nat}(h:(aW (Qn n j)).length<=q):Q08 n (j+1) 0=Q08 n j q:=by
 unfold Q08;rw[List.take_zero,List.append_nil,Ea,Ek,Ao (by rw[V0];exact h)];simp
theorem Qfs(n:List Qb):Q08 n n.length 0=Qs n:=by unfold Q08 Qs;simp
theorem Qg6{n:List Qb}{j q:Nat}(C:j<n.length):(Q08 n j q).length<=(Qs n).length:=by
 unfold Q08;have B:(Bz n.length)=Bz (j+1)++(Bz n.length).drop (j+1):=by have:=List.take_append_drop (j+1) (Bz n.length);rw[List.take_range,Nat.min_eq_left (by omega)]at this;exact this.symm
 unfold Qs;rw[B,Ek,Ea,Ek,Bo,Bo,Bo,List.length_take];simp only[List.flatMap_singleton];omega
theorem Qqe.nil{t:Ty}{e:Cf}{B:Nat}{w:Bh}:Qqe t e B w (A N 0 0) []:=⟨⟨by simp[Q8p],.inl ⟨rfl,rfl⟩⟩,Q4e.nil⟩
theorem Q0x(w:Bh)(k:Int):Bq prog 257 #[I Z k] w λe w'=>e=.returned (.bool (Q20 k))/\w=w':=by
 go_enter func257,ntmps257;go_wp2;all_goals(go_ret;exact⟨Vk (by first|(simp_all[Q20,Qqz];done)|(simp_all[Q20,Qqz];omega)),rfl⟩)
theorem Qgx(w:Bh)(k:Int):Bq prog 259 #[I Z k] w λe w'=>e=.returned (.bool (Qqz k 0 8))/\w=w':=by
 go_enter func259,ntmps259;go_wp2;all_goals(go_ret;exact⟨Vk (by first|(simp_all[Qqz];done)|(simp_all[Qqz];omega)),rfl⟩)
theorem Qgz(w:Bh)(k:Int):Bq prog 233 #[I Z k] w λe w'=>e=.returned (.bool (Q3r k))/\w=w':=by
 go_enter func233,ntmps233;go_wp2;all_goals(go_ret;exact⟨Vk (by first|(simp_all[Q3r,Qqz];done)|(simp_all[Q3r,Qqz];omega)),rfl⟩)
theorem Qly(w:Bh)(k:Int):Bq prog 234 #[I Z k] w λe w'=>e=.returned (.bool (Qqz k (-2147483648) 2147483647))/\w=w':=by
 go_enter func234,ntmps234;go_wp2;all_goals(go_ret;exact⟨Vk (by first|(simp_all[Qqz];done)|(simp_all[Qqz];omega)),rfl⟩)
theorem Q5u(w:Bh)(k:Int):Bq prog 235 #[I Z k] w λe w'=>e=.returned (.bool (Qqz k 1 6))/\w=w':=by
 go_enter func235,ntmps235;go_wp2;all_goals(go_ret;exact⟨Vk (by first|(simp_all[Qqz];done)|(simp_all[Qqz];omega)),rfl⟩)
theorem Q2g(w:Bh)(b:Bool):Bq prog 109 #[.bool b] w λe w'=>e=.returned (I Z (Q23 b))/\w=w':=by
 go_enter func109,ntmps109;go_wp2;all_goals(go_ret;exact⟨Qm (by simp_all[Q23]),rfl⟩)
theorem Q40(w:Bh)(k:Int):Bq prog 258 #[I Z k] w λe w'=>e=.returned (.bool (Y1 k))/\w=w':=by
 go_enter func258,ntmps258;go_wp2_with(go_at_call 257;refine(Q0x _ _).mono ?_;rintro e w' ⟨rfl,rfl⟩)
 all_goals(go_ret;exact⟨Vk (by rw[<-Qa4];simp_all),rfl⟩)
theorem Qcs(w:Bh)(k:Int):Bq prog 269 #[I Z k] w λe w'=>e=.returned (.bool (Q3o k))/\w=w':=by
 go_enter func269,ntmps269;go_wp2;all_goals(go_ret;exact⟨Vk (by simp_all[Q3o]),rfl⟩)
theorem Jk(w:Bh)(k l:Int):Bq prog 231 #[I Z k,I Z l] w λe w'=>e=.returned (.bool (Zy k l))/\w=w':=by
 go_enter func231,ntmps231;go_wp2_with(first|(go_at_call 257;refine(Q0x _ _).mono ?_;rintro e w' ⟨rfl,rfl⟩)|(go_at_call 258;refine(Q40 _ _).mono ?_;rintro e w' ⟨rfl,rfl⟩)|(go_at_call 259;refine(Qgx _ _).mono ?_;rintro e w' ⟨rfl,rfl⟩))
 all_goals(go_ret;exact⟨Vk (by rw[<-Qin];simp_all),rfl⟩)
theorem Qc6(w:Bh)(a k l:Int):Bq prog 268 #[I Z a,I Z k,I Z l] w λe w'=>e=.returned (.bool (Q2r a k l))/\w=w':=by
 go_enter func268,ntmps268;go_wp2_with(first|(go_at_call 231;refine(Jk _ _ _).mono ?_;rintro e w' ⟨rfl,rfl⟩)|(go_at_call 258;refine(Q40 _ _).mono ?_;rintro e w' ⟨rfl,rfl⟩)|(go_at_call 259;refine(Qgx _ _).mono ?_;rintro e w' ⟨rfl,rfl⟩))
 all_goals(go_ret;exact⟨Vk (by rw[<-Qcb];simp_all[Bool.or_assoc]),rfl⟩)
theorem Qnz(w:Bh)(ka la kb lb:Int):Bq prog 266 #[I Z ka,I Z la,I Z kb,I Z lb] w λe w'=>e=.returned (I Z (V9 ka la kb lb))/\w=w':=by
 go_enter func266,ntmps266;go_wp2_with(first|(go_at_call 268;refine(Qc6 _ _ _ _).mono ?_;rintro e w' ⟨rfl,rfl⟩)|(go_at_call 269;refine(Qcs _ _).mono ?_;rintro e w' ⟨rfl,rfl⟩))
 all_goals(go_ret;exact⟨Qm (by simp_all[V9]),rfl⟩)
theorem Qdu(w:Bh)(ka la kb lb:Int):Bq prog 262 #[I Z ka,I Z la,I Z kb,I Z lb] w λe w'=>e=.returned (.tuple #[I Z (Yx ka la kb lb),I Z (V2 ka la kb lb)])/\w=w':=by
 go_enter func262,ntmps262;go_wp2_with(first|(go_at_call 231;refine(Jk _ _ _).mono ?_;rintro e w' ⟨rfl,rfl⟩)|(go_at_call 266;refine(Qnz _ _ _ _ _).mono ?_;rintro e w' ⟨rfl,rfl⟩))
 all_goals(go_ret2;exact⟨by simp_all[Yx,V2,Q4t],rfl⟩)
theorem Qb3(k f:Int):Q0b k f=if(k==9 && Qqz f 0 3)then f+1 else if(!(Q20 k)||k==9||f !=0)then 0 else
  (if k==1||k==5||k==6||k==12 then 1 else if k==8||k==10||k==11 then 2 else 3):=by
 unfold Q0b;by_cases h:Q20 k=Bn
 ·rcases Q7t h with rfl|rfl|rfl|rfl|rfl|rfl|rfl|rfl|rfl|rfl|rfl|rfl<;>simp[h]<;>(try(split<;>omega))
 ·have F:¬(1<=k/\k<=12):=λC=>h (Ql.2 C)
  have E:Q20 k=Bm:=by simpa using h
  have B:∀j:Int,1<=j->j<=12->(k==j)=Bm:=λj B G=>by rw[beq_eq_false_iff_ne];omega
  simp[E,B]
theorem Ve(w:Bh)(k f:Int):Bq prog 229 #[I Z k,I Z f] w λe w'=>e=.returned (I Z (Q0b k f))/\w=w':=by
 by_cases h:(k==9 && Qqz f 0 3)=Bn
 ·simp only[Bool.and_eq_true,beq_iff_eq]at h
  obtain⟨rfl,J⟩:=h;have B:=Ql.1 J;obtain⟨S,T⟩:=B;have C:=qh (Qb3 9 f);have M:=qh J;clear J;go_enter func229,ntmps229;go_wp2;go_ret;exact⟨Qm (by rw[C.o];simp[M.o]),rfl⟩
 have C:=qh (Qb3 k f);by_cases E:k=9
 ·subst E
  have E:¬(0<=f/\f<=3):=λO=>h (by simp[Ql.2 O]);have U:Q20 9=Bn:=rfl;have H:=qh h;clear h;go_enter func229,ntmps229;go_wp2_with(go_at_call 257;refine(Q0x _ _).mono ?_;rintro e w' ⟨rfl,rfl⟩)
  all_goals(go_ret;exact⟨Qm (by rw[C.o,if_neg H.o,if_pos (by simp)]),rfl⟩)
 by_cases K:Q20 k=Bn
 ·by_cases B:f=0
  ·have L:(f !=0)=Bm:=by simp[B]
   have F:=qh E;have H:=qh h;clear h;rcases Q7t K with rfl|rfl|rfl|rfl|rfl|rfl|rfl|rfl|rfl|rfl|rfl|rfl
   all_goals first
    |(exact absurd rfl F.o)
    |skip
   ·have G:∀w:Bh,(Gj 298 (.agg #[I Z 0,I Z 1,I Z 3,I Z 3,I Z 3,I Z 1,I Z 1,I Z 3,I Z 2,I Z 0,I Z 2,I Z 2,I Z 1]) (I Z 1)).run prog w=.ok (I Z 1) w:=λ_=>by kernel_rfl
    subst B;clear F E;go_enter func229,ntmps229;go_wp2_with(go_at_call 257;refine(Q0x _ _).mono ?_;rintro e w' ⟨rfl,rfl⟩)
    go_ret;exact⟨Qm (by rw[C.o];rfl),rfl⟩
   ·have G:∀w:Bh,(Gj 298 (.agg #[I Z 0,I Z 1,I Z 3,I Z 3,I Z 3,I Z 1,I Z 1,I Z 3,I Z 2,I Z 0,I Z 2,I Z 2,I Z 1]) (I Z 2)).run prog w=.ok (I Z 3) w:=λ_=>by kernel_rfl
    subst B;clear F E;go_enter func229,ntmps229;go_wp2_with(go_at_call 257;refine(Q0x _ _).mono ?_;rintro e w' ⟨rfl,rfl⟩)
    go_ret;exact⟨Qm (by rw[C.o];rfl),rfl⟩
   ·have G:∀w:Bh,(Gj 298 (.agg #[I Z 0,I Z 1,I Z 3,I Z 3,I Z 3,I Z 1,I Z 1,I Z 3,I Z 2,I Z 0,I Z 2,I Z 2,I Z 1]) (I Z 3)).run prog w=.ok (I Z 3) w:=λ_=>by kernel_rfl
    subst B;clear F E;go_enter func229,ntmps229;go_wp2_with(go_at_call 257;refine(Q0x _ _).mono ?_;rintro e w' ⟨rfl,rfl⟩)
    go_ret;exact⟨Qm (by rw[C.o];rfl),rfl⟩
   ·have G:∀w:Bh,(Gj 298 (.agg #[I Z 0,I Z 1,I Z 3,I Z 3,I Z 3,I Z 1,I Z 1,I Z 3,I Z 2,I Z 0,I Z 2,I Z 2,I Z 1]) (I Z 4)).run prog w=.ok (I Z 3) w:=λ_=>by kernel_rfl
    subst B;clear F E;go_enter func229,ntmps229;go_wp2_with(go_at_call 257;refine(Q0x _ _).mono ?_;rintro e w' ⟨rfl,rfl⟩)
    go_ret;exact⟨Qm (by rw[C.o];rfl),rfl⟩
   ·have G:∀w:Bh,(Gj 298 (.agg #[I Z 0,I Z 1,I Z 3,I Z 3,I Z 3,I Z 1,I Z 1,I Z 3,I Z 2,I Z 0,I Z 2,I Z 2,I Z 1]) (I Z 5)).run prog w=.ok (I Z 1) w:=λ_=>by kernel_rfl
    subst B;clear F E;go_enter func229,ntmps229;go_wp2_with(go_at_call 257;refine(Q0x _ _).mono ?_;rintro e w' ⟨rfl,rfl⟩)
    go_ret;exact⟨Qm (by rw[C.o];rfl),rfl⟩
   ·have G:∀w:Bh,(Gj 298 (.agg #[I Z 0,I Z 1,I Z 3,I Z 3,I Z 3,I Z 1,I Z 1,I Z 3,I Z 2,I Z 0,I Z 2,I Z 2,I Z 1]) (I Z 6)).run prog w=.ok (I Z 1) w:=λ_=>by kernel_rfl
    subst B;clear F E;go_enter func229,ntmps229;go_wp2_with(go_at_call 257;refine(Q0x _ _).mono ?_;rintro e w' ⟨rfl,rfl⟩)
    go_ret;exact⟨Qm (by rw[C.o];rfl),rfl⟩
   ·have G:∀w:Bh,(Gj 298 (.agg #[I Z 0,I Z 1,I Z 3,I Z 3,I Z 3,I Z 1,I Z 1,I Z 3,I Z 2,I Z 0,I Z 2,I Z 2,I Z 1]) (I Z 7)).run prog w=.ok (I Z 3) w:=λ_=>by kernel_rfl
    subst B;clear F E;go_enter func229,ntmps229;go_wp2_with(go_at_call 257;refine(Q0x _ _).mono ?_;rintro e w' ⟨rfl,rfl⟩)
    go_ret;exact⟨Qm (by rw[C.o];rfl),rfl⟩
   ·have G:∀w:Bh,(Gj 298 (.agg #[I Z 0,I Z 1,I Z 3,I Z 3,I Z 3,I Z 1,I Z 1,I Z 3,I Z 2,I Z 0,I Z 2,I Z 2,I Z 1]) (I Z 8)).run prog w=.ok (I Z 2) w:=λ_=>by kernel_rfl
    subst B;clear F E;go_enter func229,ntmps229;go_wp2_with(go_at_call 257;refine(Q0x _ _).mono ?_;rintro e w' ⟨rfl,rfl⟩)
    go_ret;exact⟨Qm (by rw[C.o];rfl),rfl⟩
   ·have G:∀w:Bh,(Gj 298 (.agg #[I Z 0,I Z 1,I Z 3,I Z 3,I Z 3,I Z 1,I Z 1,I Z 3,I Z 2,I Z 0,I Z 2,I Z 2,I Z 1]) (I Z 10)).run prog w=.ok (I Z 2) w:=λ_=>by kernel_rfl
    subst B;clear F E;go_enter func229,ntmps229;go_wp2_with(go_at_call 257;refine(Q0x _ _).mono ?_;rintro e w' ⟨rfl,rfl⟩)
    go_ret;exact⟨Qm (by rw[C.o];rfl),rfl⟩
   ·have G:∀w:Bh,(Gj 298 (.agg #[I Z 0,I Z 1,I Z 3,I Z 3,I Z 3,I Z 1,I Z 1,I Z 3,I Z 2,I Z 0,I Z 2,I Z 2,I Z 1]) (I Z 11)).run prog w=.ok (I Z 2) w:=λ_=>by kernel_rfl
    subst B;clear F E;go_enter func229,ntmps229;go_wp2_with(go_at_call 257;refine(Q0x _ _).mono ?_;rintro e w' ⟨rfl,rfl⟩)
    go_ret;exact⟨Qm (by rw[C.o];rfl),rfl⟩
   ·have G:∀w:Bh,(Gj 298 (.agg #[I Z 0,I Z 1,I Z 3,I Z 3,I Z 3,I Z 1,I Z 1,I Z 3,I Z 2,I Z 0,I Z 2,I Z 2,I Z 1]) (I Z 12)).run prog w=.ok (I Z 1) w:=λ_=>by kernel_rfl
    subst B;clear F E;go_enter func229,ntmps229;go_wp2_with(go_at_call 257;refine(Q0x _ _).mono ?_;rintro e w' ⟨rfl,rfl⟩)
    go_ret;exact⟨Qm (by rw[C.o];rfl),rfl⟩
  ·have L:(f !=0)=Bn:=by simp[B]
   have H:=qh h;have V:=qh B;clear h B;go_enter func229,ntmps229;go_wp2_with(go_at_call 257;refine(Q0x _ _).mono ?_;rintro e w' ⟨rfl,rfl⟩)
   all_goals(go_ret;exact⟨Qm (by rw[C.o,if_neg H.o,if_pos (by simp[L])]),rfl⟩)
 ·have P:Q20 k=Bm:=by simpa using K
  have H:=qh h;clear h;go_enter func229,ntmps229;go_wp2_with(go_at_call 257;refine(Q0x _ _).mono ?_;rintro e w' ⟨rfl,rfl⟩)
  all_goals(go_ret;exact⟨Qm (by rw[C.o,if_neg H.o,if_pos (by simp[P])]),rfl⟩)
abbrev Qq0(t:Ty)(w:Bh)(v:Bk)(xs:List t.den)(pr:t.den->Bool)(fid:Nat)(cp:Array Bk)(q:Prop):Prop:=Rd (.slice t) w [v] xs->Vg prog fid->(∀(wx:Bh) (vs:List Bk) (x:t.den),x∈xs->Bi w.heap.size w wx->Rd t wx vs x->Bq prog fid (#[.agg vs.toArray]++cp) wx λe w'=>e=.returned (.bool (pr x))/\Bi wx.heap.size wx w')->q
abbrev Qjc(f:Nat)(t:Ty):Prop:=∀(w:Bh) (v:Bk) (xs:List t.den) (pr:t.den->Bool) (fid:Nat) (cp:Array Bk),Qq0 t w v xs pr fid cp (Bq prog f #[v,.func (.func fid) #[] cp] w λe w'=>e=.returned (I Z (Q9z pr xs))/\Bi w.heap.size w w')
abbrev Qjb(f:Nat)(t:Ty):Prop:=∀(w:Bh) (v:Bk) (xs:List t.den) (pr:t.den->Bool) (fid:Nat) (cp:Array Bk),Qq0 t w v xs pr fid cp (Bq prog f #[v,.func (.func fid) #[] cp] w λe w'=>e=.returned (.bool (List.any xs pr))/\Bi w.heap.size w w')
theorem Qdn(w:Bh)(v:Bk)(xs:(Ty.slice Ty.int).den)(C:Ty.int.den->Bool)(H:Nat)(P:Array Bk)(h:Rd (Ty.slice Ty.int) w [v] xs)(Y:Vg prog H)(S:∀(G:Bh) (x:Ty.int.den),x∈xs->Bi w.heap.size w G->Bq prog H (#[I Z x]++P) G λe w'=>e=.returned (.bool (C x))/\Bi G.heap.size G w'):
  Bq prog 236 #[v,.func (.func H) #[] P] w λe w'=>e=.returned (I Z (Q9z C xs))/\Bi w.heap.size w w':=by
 obtain⟨p,l,rfl,m,a,T⟩:=(Yz h).gen;clear h;unfold Bp at a;unfold Vg at Y;have d:=qh T;have U:=qh S;clear T S;go_enter func236,ntmps236;go_wp2;go_loopw [8] (λc wr=>∃k:Nat,k<=xs.length/\c=I Z k/\D (∀(j:Nat) (V:j<xs.length),j<k->C xs[j]=Bm)/\D (Bi w.heap.size w wr)) (λc _=>xs.length-(Bv c).toNat);case atStart=>exact⟨0,Ak _,rfl,λj _ h=>absurd h (Da _),Ai _ _⟩
 case round=>
  obtain⟨k,n,rfl,J,B⟩:=hrel;by_cases K:k<xs.length
  ·obtain⟨b,o,rfl,cs,f,E,L⟩:=d.o k K
   have M:=As K;generalize hxk:xs[k]=x at L M;have W:=qh hxk;have X:=qh M;clear hxk M f;have q:=qh L;obtain⟨rfl,_⟩:=L;have E:=E.kept (Am B.o);simp only[Ty.sz,Cb]at E;have r:=Qac E;clear E;cases hp:C x
   ·go_wp2_with fail
    refine(U.o _ _ X.o B.o).mono ?_;rintro e w1 ⟨rfl,F⟩;have O:=qh (Q0 B.o F);clear F;rw[hp];go_wp2;go_roundw;case rel=>exact⟨k+1,by omega,by go_num,(λj V g=>(Il (Im g)).elim (J.o j V) (λe=>by subst e;rw[W.o];exact hp)),O⟩
    case measure=>simp[Bv];omega
   ·go_wp2_with fail
    refine(U.o _ _ X.o B.o).mono ?_;rintro e w1 ⟨rfl,F⟩;have O:=qh (Q0 B.o F);clear F;rw[hp];go_wp2;go_ret;exact⟨Qm (Qcn K J.o (by rw[W.o];exact hp)).symm,O.o⟩
  ·have i:=qh (Q7x (p:=C) (xs:=xs) (k:=k) (by omega) J.o)
   go_wp2;go_ret;exact⟨Qm i.o.symm,B.o⟩
theorem Q1h(w:Bh)(v:Bk)(xs:(Ty.slice Ty.int).den)(B:Ty.int.den->Bool)(E:Nat)(F:Array Bk)(h:Rd (Ty.slice Ty.int) w [v] xs)(G:Vg prog E)(J:∀(C:Bh) (x:Ty.int.den),x∈xs->Bi w.heap.size w C->Bq prog E (#[I Z x]++F) C λe w'=>e=.returned (.bool (B x))/\Bi C.heap.size C w'):
  Bq prog 198 #[v,.func (.func E) #[] F] w λe w'=>e=.returned (.bool (List.any xs B))/\Bi w.heap.size w w':=by
 have H:=qh h;have L:=qh J;have M:=qh G;clear h J G;have O:=qh (Q70 B xs);go_enter func198,ntmps198;go_wp2_with fail
 refine(Qdn _ _ _ B _ _ H.o M.o L.o).mono ?_;rintro e w1 ⟨rfl,K⟩;have P:=qh K;clear K;go_wp2;go_ret;exact⟨Vk O.o,P.o⟩
theorem Q79:Qjc 197 Q4/\Qjc 203 Q4/\Qjc 205 Q4/\Qjc 200 Q3/\Qjc 153 Je/\Qjc 64 Qr:=by
 refine⟨?_, ?_, ?_, ?_, ?_, ?_⟩
 all_goals
  intro w v xs F y z h Y O;obtain⟨p,A0,rfl,A1,a,P⟩:=(Yz h).gen;clear h;unfold Bp at a;unfold Vg at Y;have d:=qh P;have f:=qh O;clear P O;(first|(go_enter func197,ntmps197)|(go_enter func203,ntmps203)|(go_enter func205,ntmps205)|(go_enter func200,ntmps200)|(go_enter func153,ntmps153)|(go_enter func64,ntmps64))
  go_wp2;go_loopw [8] (λc wr=>∃k:Nat,k<=xs.length/\c=I Z k/\D (∀(j:Nat) (S:j<xs.length),j<k->F xs[j]=Bm)/\D (Bi w.heap.size w wr)) (λc _=>xs.length-(Bv c).toNat);case atStart=>exact⟨0,Ak _,rfl,λj _ h=>absurd h (Da _),Ai _ _⟩
  case round=>
   obtain⟨k,hk,rfl,G,C⟩:=hrel;by_cases H:k<xs.length
   ·obtain⟨b,o,rfl,cs,E,B,J⟩:=d.o k H
    have K:=As H;generalize hxk:xs[k]=x at J K;have T:=qh hxk;have g:=qh K;clear hxk K;have i:=qh J;clear J;have B:=B.kept (Am C.o)
    first
     |(obtain⟨L,U,rfl⟩:=Ql5 E;simp only[Ty.sz,Cb,Bj]at B;obtain⟨M,V⟩:=Qcy B)
     |(obtain⟨L,rfl⟩:=Qe4 E;simp only[Ty.sz,Cb,Bj]at B;have M:=Qac B)
     |(obtain⟨L,U,l,m,n,rfl⟩:=Qi8 E;simp only[Ty.sz,Cb,Bj]at B;obtain⟨M,V,q,r,s⟩:=Q4b B)
     |(obtain⟨L,U,l,m,n,u5,u6,rfl⟩:=Qg5 E;simp only[Ty.sz,Cb,Bj]at B;obtain⟨M,V,q,r,s,c5,c6⟩:=Qpc B)
    clear B E;cases hp:F x
    all_goals
     go_wp2_with fail
     refine(f.o _ _ _ g.o C.o (Rd.kept i.o (Am C.o))).mono ?_;rintro e w1 ⟨rfl,W⟩;have X:=qh (Q0 C.o W);clear W;rw[hp];go_wp2
    ·go_roundw
     case rel=>exact⟨k+1,by omega,by go_num,(λj S t=>(Il (Im t)).elim (G.o j S) (λe=>by subst e;rw[T.o];exact hp)),X⟩
     case measure=>simp[Bv];omega
    ·go_ret
     exact⟨Qm (Qcn H G.o (by rw[T.o];exact hp)).symm,X.o⟩
   ·have u:=qh (Q7x (p:=F) (xs:=xs) (k:=k) (by omega) G.o)
    go_wp2;go_ret;exact⟨Qm u.o.symm,C.o⟩
theorem Q7q:(Qjc 197 Q4->Qjb 155 Q4)/\(Qjc 203 Q4->Qjb 164 Q4)/\(Qjc 205 Q4->Qjb 168 Q4)/\(Qjc 200 Q3->Qjb 161 Q3)/\(Qjc 153 Je->Qjb 105 Je)/\(Qjc 64 Qr->Qjb 31 Qr):=by
 refine⟨?_, ?_, ?_, ?_, ?_, ?_⟩
 all_goals
  intro B w v xs C P S h E F;have H:=qh h;have J:=qh F;have K:=qh E;have L:=qh B;clear h F E B;have M:=qh (Q70 C xs);(first|(go_enter func155,ntmps155)|(go_enter func164,ntmps164)|(go_enter func168,ntmps168)|(go_enter func161,ntmps161)|(go_enter func105,ntmps105)|(go_enter func31,ntmps31))
  go_wp2_with fail
  refine(L.o _ _ _ C _ _ H.o K.o J.o).mono ?_;rintro e w1 ⟨rfl,G⟩;have O:=qh G;clear G;go_wp2;go_ret;exact⟨Vk M.o,O.o⟩
theorem Qap:Qjb 155 Q4:=Q7q.1 Q79.1
theorem Q3h:Qjb 164 Q4:=Q7q.2.1 Q79.2.1
theorem Q5o:Qjb 168 Q4:=Q7q.2.2.1 Q79.2.2.1
theorem Q1x:Qjb 161 Q3:=Q7q.2.2.2.1 Q79.2.2.2.1
theorem Qbz:Qjb 105 Je:=Q7q.2.2.2.2.1 Q79.2.2.2.2.1
theorem Q5j:Qjb 31 Qr:=Q7q.2.2.2.2.2 Q79.2.2.2.2.2
end Go.Proofs.YthbpkpnioaniiaaGreat
