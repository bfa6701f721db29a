import Derived.Test.YthbpkpnioaniiaaGreatP06
set_option maxHeartbeats 40000000
set_option maxRecDepth 100000
set_option linter.all false
namespace Go.Proofs.YthbpkpnioaniiaaGreat
open Go.RowKit Go.Proofs.Tryz
open Go.Value renaming int->I,slice->A
open Go.IntKind renaming i64->Z
open Option renaming none->N,some->R
open Bool renaming true->Bn,false->Bm,false_and->Cn,true_and->Dl,and_eq_true->Bl
open Go renaming World->Bh,maxLen->Bp,Calls->Bq,heap_alloc_new->Bg,wpQuiet_nil->Ds
open Go.RowKit renaming Below->Bi,intOf->Bv
open Int renaming toNat_natCast->By
open List renaming range->Bz,setIfInBounds_toArray->Ci,set_cons_zero->Cs,set_cons_succ->Cw
theorem Rd.agentV{w:Bh}{vs:List Value}{k l v:Int}{d:List Int}{ws:List Wd}(h:Rd Q3 w vs (k,l,v,d,ws)):
  ∃(E:Option Addr) (B:Nat) (F:Option Addr) (C:Nat),vs=[I Z k,I Z l,I Z v,A E d.length B,A F ws.length C]/\(Qqm k/\Qqm l/\Qqm v)/\(d.length<=B/\d.length<=Bp/\Rd (.slice .int) w [A E d.length B] d)/\(ws.length<=C/\ws.length<=Bp/\Rd (.slice Q4) w [A F ws.length C] ws):=by
 obtain⟨_,_,rfl,⟨rfl,J⟩,_,_,rfl,⟨rfl,K⟩,_,_,rfl,⟨rfl,L⟩,_,_,rfl,G,H⟩:=h;obtain⟨E,B,rfl,M,O,G⟩:=J6 G;obtain⟨F,C,rfl,w1,w2,H⟩:=J6 H;exact⟨E,B,F,C,rfl,⟨J,K,L⟩,⟨M,O,G⟩,⟨w1,w2,H⟩⟩
theorem Vd(w:Bh)(k:Int)(n:Nat)(B:n<=2 ^ 63-1):Bq prog 230 #[I Z k,I Z n] w λe w'=>e=.returned (I Z (Q1l k n))/\w=w':=by
 have C:(0:Int)<=n:=by omega
 have E:(n:Int)<=9223372036854775807:=by omega
 go_enter func230,ntmps230;go_wp2;all_goals(go_ret;exact⟨Qm (by simp_all[Q1l]),rfl⟩)
theorem Qn9(w:Bh)(k:Int):Bq prog 232 #[I Z k] w λe w'=>e=.returned (.bool (!Q3r k))/\Bi w.heap.size w w':=by
 go_enter func232,ntmps232;go_wp2_with(go_at_call 233;refine(Qgz _ _).mono ?_;rintro e w' ⟨rfl,rfl⟩)
 go_ret;exact⟨rfl,Ai _ _⟩
theorem Qcp(w:Bh)(vs:List Value)(x:Qb)(h:Rd Q3 w vs x):
  Bq prog 196 #[.agg vs.toArray] w λe w'=>e=.returned (.bool (Yc x))/\Bi w.heap.size w w':=by
 obtain⟨k,l,v,d,ws⟩:=x;obtain⟨H,J,K,L,rfl,-,⟨d1,d2,r⟩,⟨-,w2,-⟩⟩:=h.agentV;unfold Bp at d2 w2;have f:D (∀W,Bi w.heap.size w W->Rd (.slice .int) W [A H d.length J] d):=qh (λW B=>r.kept (Am B));clear h r;generalize hP:Q0b k (Q1l k ws.length)=P;have M:=qh hP;have a:D (Yc (k,l,v,d,ws)=(decide (0<P) && ((ws.length:Int)==P) && Zy k l && Zt k v d)):=qh (by rw[<-hP];rfl);clear hP;rcases Qps (!((ws.length:Int)==0)) (!(P !=(ws.length:Int))) (Zy k l)with q0|⟨q0,q1⟩|⟨q0,q1,q2⟩|⟨q0,q1,q2⟩
 ·have q0:((ws.length:Int)==0)=Bn:=by simpa using q0
  have O:D ((decide (0<P) && ((ws.length:Int)==P) && Zy k l && Zt k v d)=Bm):=qh (by
   have s:(ws.length:Int)=0:=by simpa using q0
   rw[s];by_cases hp:0<P
   ·rw[show((0:Int)==P)=Bm by simp;omega];simp
   ·simp[hp])
  go_enter func196,ntmps196;go_upto_region 1 with fail
  refine Qq ?_;intro C E;have F:D (Bi w.heap.size w C):=qh (by rw[E];go_grown);have G:D (∀W,Bi C.heap.size C W->W.cell? ⟨w.heap.size,0,N⟩=R (I Z k)/\W.cell? ⟨w.heap.size,1,N⟩=R (I Z l)/\W.cell? ⟨w.heap.size,2,N⟩=R (I Z v)/\W.cell? ⟨w.heap.size,3,N⟩=R (A H d.length J)/\W.cell? ⟨w.heap.size,4,N⟩=R (A K ws.length L)):=qh (by intro W B;have B:=Am B;rw[E]at B;have h:=Bg w (.cells #[I Z k,I Z l,I Z v,A H d.length J,A K ws.length L] 128);exact⟨B.cell _ _ (Q8 h rfl),B.cell _ _ (Q8 h rfl),B.cell _ _ (Q8 h rfl),B.cell _ _ (Q8 h rfl),B.cell _ _ (Q8 h rfl)⟩);obtain⟨S,T,U,V,X⟩:=G.o C (Ai _ _);clear E;go_quiet(first|(go_at_call 230;first|exact Yi (Qqc (Vd _ _ _ w2)) (rfl)|exact Yh (Qqc (Vd _ _ _ w2)) (rfl))|(go_at_call 229;first|exact Yi (Qqc (Ve _ _ _)) (by rw[M.o])|exact Yh (Qqc (Ve _ _ _)) (by rw[M.o]))|(go_at_call 231;first|exact Yi (Qqc (Jk _ _ _)) (rfl)|exact Yh (Qqc (Jk _ _ _)) (rfl)))
  go_wp2;go_ret;exact⟨Q2 (by rw[a.o,O.o]),Q6 F.o _⟩
 ·have q0:((ws.length:Int)==0)=Bm:=by simpa using q0
  have q1:(P !=(ws.length:Int))=Bn:=by simpa using q1
  have O:D ((decide (0<P) && ((ws.length:Int)==P) && Zy k l && Zt k v d)=Bm):=qh (by
   have t:P≠ws.length:=by simpa using q1
   rw[show((ws.length:Int)==P)=Bm by simp;omega];simp)
  go_enter func196,ntmps196;go_upto_region 1 with fail
  refine Qq ?_;intro C E;have F:D (Bi w.heap.size w C):=qh (by rw[E];go_grown);have G:D (∀W,Bi C.heap.size C W->W.cell? ⟨w.heap.size,0,N⟩=R (I Z k)/\W.cell? ⟨w.heap.size,1,N⟩=R (I Z l)/\W.cell? ⟨w.heap.size,2,N⟩=R (I Z v)/\W.cell? ⟨w.heap.size,3,N⟩=R (A H d.length J)/\W.cell? ⟨w.heap.size,4,N⟩=R (A K ws.length L)):=qh (by intro W B;have B:=Am B;rw[E]at B;have h:=Bg w (.cells #[I Z k,I Z l,I Z v,A H d.length J,A K ws.length L] 128);exact⟨B.cell _ _ (Q8 h rfl),B.cell _ _ (Q8 h rfl),B.cell _ _ (Q8 h rfl),B.cell _ _ (Q8 h rfl),B.cell _ _ (Q8 h rfl)⟩);obtain⟨S,T,U,V,X⟩:=G.o C (Ai _ _);clear E;go_quiet(first|(go_at_call 230;first|exact Yi (Qqc (Vd _ _ _ w2)) (rfl)|exact Yh (Qqc (Vd _ _ _ w2)) (rfl))|(go_at_call 229;first|exact Yi (Qqc (Ve _ _ _)) (by rw[M.o])|exact Yh (Qqc (Ve _ _ _)) (by rw[M.o]))|(go_at_call 231;first|exact Yi (Qqc (Jk _ _ _)) (rfl)|exact Yh (Qqc (Jk _ _ _)) (rfl)))
  go_wp2;go_ret;exact⟨Q2 (by rw[a.o,O.o]),Q6 F.o _⟩
 ·have q0:((ws.length:Int)==0)=Bm:=by simpa using q0
  have q1:(P !=(ws.length:Int))=Bm:=by simpa using q1
  have O:D ((decide (0<P) && ((ws.length:Int)==P) && Zy k l && Zt k v d)=Bm):=qh (by rw[q2];simp);go_enter func196,ntmps196;go_upto_region 1 with fail
  refine Qq ?_;intro C E;have F:D (Bi w.heap.size w C):=qh (by rw[E];go_grown);have G:D (∀W,Bi C.heap.size C W->W.cell? ⟨w.heap.size,0,N⟩=R (I Z k)/\W.cell? ⟨w.heap.size,1,N⟩=R (I Z l)/\W.cell? ⟨w.heap.size,2,N⟩=R (I Z v)/\W.cell? ⟨w.heap.size,3,N⟩=R (A H d.length J)/\W.cell? ⟨w.heap.size,4,N⟩=R (A K ws.length L)):=qh (by intro W B;have B:=Am B;rw[E]at B;have h:=Bg w (.cells #[I Z k,I Z l,I Z v,A H d.length J,A K ws.length L] 128);exact⟨B.cell _ _ (Q8 h rfl),B.cell _ _ (Q8 h rfl),B.cell _ _ (Q8 h rfl),B.cell _ _ (Q8 h rfl),B.cell _ _ (Q8 h rfl)⟩);obtain⟨S,T,U,V,X⟩:=G.o C (Ai _ _);clear E;go_quiet(first|(go_at_call 230;first|exact Yi (Qqc (Vd _ _ _ w2)) (rfl)|exact Yh (Qqc (Vd _ _ _ w2)) (rfl))|(go_at_call 229;first|exact Yi (Qqc (Ve _ _ _)) (by rw[M.o])|exact Yh (Qqc (Ve _ _ _)) (by rw[M.o]))|(go_at_call 231;first|exact Yi (Qqc (Jk _ _ _)) (Qr7 q2)|exact Yh (Qqc (Jk _ _ _)) (Qr7 q2)))
  go_wp2;go_ret;exact⟨Q2 (by rw[a.o,O.o]),Q6 F.o _⟩
 ·have q0:((ws.length:Int)==0)=Bm:=by simpa using q0
  have q1:(P !=(ws.length:Int))=Bm:=by simpa using q1
  have O:D ((decide (0<P) && ((ws.length:Int)==P) && Zy k l && Zt k v d)=Zt k v d):=qh (by
   have t:P=ws.length:=by simpa using q1
   have s:ws.length≠0:=by simpa using q0
   rw[q2,t,show decide (0<(ws.length:Int))=Bn by simp;omega];simp)
  have i:D (Vg prog 232):=qh (by intro _ _;kernel_rfl);have j:D (∀(W:Bh),∀(b:Bh) (x:Ty.int.den),x∈d->Bi W.heap.size W b->Bq prog 232 (#[I Z x]++ #[]) b λe w'=>e=.returned (.bool (!Q3r x))/\Bi b.heap.size b w'):=qh (λ_ b x _ _=>Qn9 b x);obtain⟨m,n⟩:∃m,m=d.any λx=> !Q3r x:=⟨_,rfl⟩;have o:=qh n.symm;have u:D (d.all Q3r= !m):=qh (by rw[n,List.not_any_eq_all_not];congr 1;funext x;simp);clear n;have p:D (∀g,g=v->Yc (k,l,g,d,ws)=Zt k g d):=qh (λg e=>by rw[e,a.o,O.o]);by_cases y:k=8
  ·subst y
   by_cases q:d.length=1
   ·have A0:((d.length:Int)==1)=Bn:=by simp[q]
    have z:0<d.length:=by omega
    have A1:D (d[0]=d.getD 0 0):=qh (by simp[List.getD_eq_getElem?_getD,z]);have A2:(0:Int)<d.length:=by omega
    clear q;go_enter func196,ntmps196;go_upto_region 1 with fail
    refine Qq ?_;intro C E;have F:D (Bi w.heap.size w C):=qh (by rw[E];go_grown);have G:D (∀W,Bi C.heap.size C W->W.cell? ⟨w.heap.size,0,N⟩=R (I Z 8)/\W.cell? ⟨w.heap.size,1,N⟩=R (I Z l)/\W.cell? ⟨w.heap.size,2,N⟩=R (I Z v)/\W.cell? ⟨w.heap.size,3,N⟩=R (A H d.length J)/\W.cell? ⟨w.heap.size,4,N⟩=R (A K ws.length L)):=qh (by intro W B;have B:=Am B;rw[E]at B;have h:=Bg w (.cells #[I Z 8,I Z l,I Z v,A H d.length J,A K ws.length L] 128);exact⟨B.cell _ _ (Q8 h rfl),B.cell _ _ (Q8 h rfl),B.cell _ _ (Q8 h rfl),B.cell _ _ (Q8 h rfl),B.cell _ _ (Q8 h rfl)⟩);obtain⟨S,T,U,V,X⟩:=G.o C (Ai _ _);clear E;go_quiet(first|(go_at_call 230;first|exact Yi (Qqc (Vd _ _ _ w2)) (rfl)|exact Yh (Qqc (Vd _ _ _ w2)) (rfl))|(go_at_call 229;first|exact Yi (Qqc (Ve _ _ _)) (by rw[M.o])|exact Yh (Qqc (Ve _ _ _)) (by rw[M.o]))|(go_at_call 231;first|exact Yi (Qqc (Jk _ _ _)) (Qr7 q2)|exact Yh (Qqc (Jk _ _ _)) (Qr7 q2)))
    go_wp2;go_quiet(fail)
    go_upto_region 5 with((go_at_call 198;(with_reducible refine(Q1h _ _ d (λx=> !Q3r x) _ _ (f.o _ (Q6 F.o _)) i.o (j.o _)).mono ?_);rintro e w1 ⟨rfl,B⟩;have Y:D (Bi C.heap.size C w1):=qh (Q0 (Q6 (Ai _ _) _) B);clear B))
    have c:D (Bi w.heap.size w w1):=qh (Q0 F.o Y.o);obtain⟨S,T,U,V,X⟩:=G.o w1 Y.o;rw[o.o];obtain⟨bd,od,rfl,hA⟩:=Rd.elem (f.o _ c.o) 0 z;obtain⟨e0,-⟩:=At.int hA;simp only[Ty.sz,Nat.zero_mul,Nat.add_zero]at e0;rw[A1.o]at e0;clear hA;go_wp2_with(first|(go_at_call 234;refine(Qly _ _).mono ?_;rintro e w' ⟨rfl,rfl⟩)|(go_at_call 235;refine(Q5u _ _).mono ?_;rintro e w' ⟨rfl,rfl⟩)|(go_at_call 233;refine(Qgz _ _).mono ?_;rintro e w' ⟨rfl,rfl⟩))
    all_goals(go_ret;exact⟨Q2 (by(first|rw[a.o,O.o]|rw[p.o 0 (by omega)]);simp_all[Zt]),c.o⟩)
   ·have A0:((d.length:Int)==1)=Bm:=by simp;omega
    clear q;go_enter func196,ntmps196;go_upto_region 1 with fail
    refine Qq ?_;intro C E;have F:D (Bi w.heap.size w C):=qh (by rw[E];go_grown);have G:D (∀W,Bi C.heap.size C W->W.cell? ⟨w.heap.size,0,N⟩=R (I Z 8)/\W.cell? ⟨w.heap.size,1,N⟩=R (I Z l)/\W.cell? ⟨w.heap.size,2,N⟩=R (I Z v)/\W.cell? ⟨w.heap.size,3,N⟩=R (A H d.length J)/\W.cell? ⟨w.heap.size,4,N⟩=R (A K ws.length L)):=qh (by intro W B;have B:=Am B;rw[E]at B;have h:=Bg w (.cells #[I Z 8,I Z l,I Z v,A H d.length J,A K ws.length L] 128);exact⟨B.cell _ _ (Q8 h rfl),B.cell _ _ (Q8 h rfl),B.cell _ _ (Q8 h rfl),B.cell _ _ (Q8 h rfl),B.cell _ _ (Q8 h rfl)⟩);obtain⟨S,T,U,V,X⟩:=G.o C (Ai _ _);clear E;go_quiet(first|(go_at_call 230;first|exact Yi (Qqc (Vd _ _ _ w2)) (rfl)|exact Yh (Qqc (Vd _ _ _ w2)) (rfl))|(go_at_call 229;first|exact Yi (Qqc (Ve _ _ _)) (by rw[M.o])|exact Yh (Qqc (Ve _ _ _)) (by rw[M.o]))|(go_at_call 231;first|exact Yi (Qqc (Jk _ _ _)) (Qr7 q2)|exact Yh (Qqc (Jk _ _ _)) (Qr7 q2)))
    go_wp2;go_quiet(fail)
    go_upto_region 5 with((go_at_call 198;(with_reducible refine(Q1h _ _ d (λx=> !Q3r x) _ _ (f.o _ (Q6 F.o _)) i.o (j.o _)).mono ?_);rintro e w1 ⟨rfl,B⟩;have Y:D (Bi C.heap.size C w1):=qh (Q0 (Q6 (Ai _ _) _) B);clear B))
    have c:D (Bi w.heap.size w w1):=qh (Q0 F.o Y.o);obtain⟨S,T,U,V,X⟩:=G.o w1 Y.o;rw[o.o];go_wp2_with(first|(go_at_call 234;refine(Qly _ _).mono ?_;rintro e w' ⟨rfl,rfl⟩)|(go_at_call 235;refine(Q5u _ _).mono ?_;rintro e w' ⟨rfl,rfl⟩)|(go_at_call 233;refine(Qgz _ _).mono ?_;rintro e w' ⟨rfl,rfl⟩))
    all_goals(go_ret;exact⟨Q2 (by(first|rw[a.o,O.o]|rw[p.o 0 (by omega)]);simp_all[Zt]),c.o⟩)
  ·have A3:(k==8)=Bm:=by simpa using y
   go_enter func196,ntmps196;go_upto_region 1 with fail
   refine Qq ?_;intro C E;have F:D (Bi w.heap.size w C):=qh (by rw[E];go_grown);have G:D (∀W,Bi C.heap.size C W->W.cell? ⟨w.heap.size,0,N⟩=R (I Z k)/\W.cell? ⟨w.heap.size,1,N⟩=R (I Z l)/\W.cell? ⟨w.heap.size,2,N⟩=R (I Z v)/\W.cell? ⟨w.heap.size,3,N⟩=R (A H d.length J)/\W.cell? ⟨w.heap.size,4,N⟩=R (A K ws.length L)):=qh (by intro W B;have B:=Am B;rw[E]at B;have h:=Bg w (.cells #[I Z k,I Z l,I Z v,A H d.length J,A K ws.length L] 128);exact⟨B.cell _ _ (Q8 h rfl),B.cell _ _ (Q8 h rfl),B.cell _ _ (Q8 h rfl),B.cell _ _ (Q8 h rfl),B.cell _ _ (Q8 h rfl)⟩);obtain⟨S,T,U,V,X⟩:=G.o C (Ai _ _);clear E;go_quiet(first|(go_at_call 230;first|exact Yi (Qqc (Vd _ _ _ w2)) (rfl)|exact Yh (Qqc (Vd _ _ _ w2)) (rfl))|(go_at_call 229;first|exact Yi (Qqc (Ve _ _ _)) (by rw[M.o])|exact Yh (Qqc (Ve _ _ _)) (by rw[M.o]))|(go_at_call 231;first|exact Yi (Qqc (Jk _ _ _)) (Qr7 q2)|exact Yh (Qqc (Jk _ _ _)) (Qr7 q2)))
   go_wp2;go_quiet(fail)
   go_upto_region 5 with((go_at_call 198;(with_reducible refine(Q1h _ _ d (λx=> !Q3r x) _ _ (f.o _ (Q6 F.o _)) i.o (j.o _)).mono ?_);rintro e w1 ⟨rfl,B⟩;have Y:D (Bi C.heap.size C w1):=qh (Q0 (Q6 (Ai _ _) _) B);clear B))
   have c:D (Bi w.heap.size w w1):=qh (Q0 F.o Y.o);obtain⟨S,T,U,V,X⟩:=G.o w1 Y.o;rw[o.o];go_wp2_with(first|(go_at_call 234;refine(Qly _ _).mono ?_;rintro e w' ⟨rfl,rfl⟩)|(go_at_call 235;refine(Q5u _ _).mono ?_;rintro e w' ⟨rfl,rfl⟩)|(go_at_call 233;refine(Qgz _ _).mono ?_;rintro e w' ⟨rfl,rfl⟩))
   all_goals(go_ret;exact⟨Q2 (by(first|rw[a.o,O.o]|rw[p.o 0 (by omega)]);(first|(simp_all[Zt,u.o,Qqz];done)|(simp_all[Zt,u.o,Qqz];omega))),c.o⟩)
theorem Q0n(w:Bh)(a b c d e:Value)(T:TypeId):(w.alloc (.cells #[a,b,c,d,e] T)).cell? ⟨w.heap.size,0,N⟩=R a/\(w.alloc (.cells #[a,b,c,d,e] T)).cell? ⟨w.heap.size,1,N⟩=R b/\(w.alloc (.cells #[a,b,c,d,e] T)).cell? ⟨w.heap.size,2,N⟩=R c/\(w.alloc (.cells #[a,b,c,d,e] T)).cell? ⟨w.heap.size,3,N⟩=R d/\(w.alloc (.cells #[a,b,c,d,e] T)).cell? ⟨w.heap.size,4,N⟩=R e:=
 have h:=Bg w (.cells #[a,b,c,d,e] T);⟨Q8 h rfl,Q8 h rfl,Q8 h rfl,Q8 h rfl,Q8 h rfl⟩
theorem At.rdv{w:Bh}{b o:Nat}{k l v:Int}{d:List Int}{ws:List Wd}{E F:Option Addr}{G H:Nat}(h:At Q3 w b o (k,l,v,d,ws))(B:w.cell? ⟨b,o+3,N⟩=R (A E d.length G))(C:w.cell? ⟨b,o+4,N⟩=R (A F ws.length H)):Rd Q3 w [I Z k,I Z l,I Z v,A E d.length G,A F ws.length H] (k,l,v,d,ws):=by
 obtain⟨cs,M,r,J⟩:=h;obtain⟨O,P,S,T,rfl,-⟩:=J.agentV;obtain⟨-,-,-,K,L⟩:=Q4b r;rw[K]at B;rw[L]at C;simp only[Option.some.injEq]at B C;rw[<-B,<-C];exact J
theorem Qey(w:Bh)(p:Option Addr)(c:Nat)(n:List Qb)(h:Rd (.slice Q3) w [A p n.length c] n)(s:n.length<=Bp):
  Bq prog 154 #[A p n.length c] w λe w'=>e=.returned (.bool (Jm n))/\Bi w.heap.size w w':=by
 unfold Bp at s;have H:=qh h;clear h;by_cases q0:1<=n.length/\n.length<=600;rotate_left
 ·have E:D (Jm n=Bm):=qh (by
   have:Qqz n.length 1 600=Bm:=Q0h.2 (by omega);simp only[Jm,this,Cn])
  by_cases q1:n.length<1
  ·have f:(n.length:Int)<1:=by omega
   go_enter func154,ntmps154;go_wp2;go_ret;exact⟨Q2 E.o.symm,Ai _ _⟩
  ·have f:¬(n.length:Int)<1:=by omega
   have t:(600:Int)<n.length:=by omega
   go_enter func154,ntmps154;go_wp2;go_ret;exact⟨Q2 E.o.symm,Ai _ _⟩
 ·have E:D (Jm n=(Bz n.length).all λ(i:Nat)=>Yc (Qn n i) && ((aK (Qn n i)==1)==((i:Int)==0))):=qh (by
   have:Qqz n.length 1 600=Bn:=Ql.2 (by omega);simp only[Jm,this,Dl])
  obtain⟨h1,h6⟩:=q0;have f:¬(n.length:Int)<1:=by omega
  have t:¬(600:Int)<n.length:=by omega
  go_enter func154,ntmps154;go_wp2;go_loopw [15] (λi wr=>∃j:Nat,j<=n.length/\i=I Z j/\D (∀q,q<j->(Yc (Qn n q) && ((aK (Qn n q)==1)==((q:Int)==0)))=Bn)/\D (Bi w.heap.size w wr)) (λi _=>n.length-(Bv i).toNat);case atStart=>exact⟨0,Ak _,rfl,λq h=>absurd h (Nat.not_lt_zero _),Ai _ _⟩
  case round=>
   obtain⟨j,hj,rfl,g,S⟩:=hrel;by_cases K:j<n.length
   ·obtain⟨b1,o1,rfl,F⟩:=Rd.elem H.o j K
    generalize hx:n[j]=x at F;obtain⟨k,l,v,d,ws⟩:=x;have T:D (Qn n j=(k,l,v,d,ws)):=qh (by rw[Qx K,hx]);clear hx;have F:=F.kept (Am S.o);obtain⟨L,M,O,P,⟨U,m,o,V,W⟩,_,_,_⟩:=F.agent;have u:=qh (F.rdv V W);simp only[Ty.sz,Nat.reduceAdd]at U m o V W;have y:=Ac wr _ U;simp only at y;clear F;go_upto_region 6 with fail
    refine Qq ?_;intro z X;obtain⟨G,d1,d2,d3,d4⟩:=Q0n wr (I Z k) (I Z l) (I Z v) (A L d.length M) (A O ws.length P) 128;have r:D (Bi wr.heap.size wr z):=qh (by rw[X];go_grown);rw[<-X]at G d1 d2 d3 d4;clear X U m o V W;have Y:=qh (u.o.kept (Am r.o));have a:=qh (Q0 S.o r.o);cases hag:Yc (k,l,v,d,ws)with
    |false=>
     have C:=qh hag;go_wp2_with((go_at_call 196;(with_reducible refine(Qcp _ [I Z k,I Z l,I Z v,A L d.length M,A O ws.length P] _ Y.o).mono ?_);rintro e w' ⟨rfl,B⟩;rw[C.o];have J:=qh (Q0 a.o B);clear B))
     go_ret;exact⟨Q2 (by rw[E.o];exact(Yo j K (by rw[T.o,C.o];rfl)).symm),J.o⟩
    |true=>
     have C:=qh hag;cases hkk:((k==1)==((j:Int)==0))with
     |false=>
      have b:=qh hkk;have A0:((k==1) !=((j:Int)==0))=Bn:=by rw[bne,hkk];rfl
      go_wp2_with((go_at_call 196;(with_reducible refine(Qcp _ [I Z k,I Z l,I Z v,A L d.length M,A O ws.length P] _ Y.o).mono ?_);rintro e w' ⟨rfl,B⟩;rw[C.o];have G:=(Am B).cell _ _ G;have J:=qh (Q0 a.o B);clear B))
      go_ret;exact⟨Q2 (by rw[E.o];exact(Yo j K (by rw[T.o,C.o];simp only[aK,b.o];rfl)).symm),J.o⟩
     |true=>
      have b:=qh hkk;have A0:((k==1) !=((j:Int)==0))=Bm:=by rw[bne,hkk];rfl
      go_wp2_with((go_at_call 196;(with_reducible refine(Qcp _ [I Z k,I Z l,I Z v,A L d.length M,A O ws.length P] _ Y.o).mono ?_);rintro e w' ⟨rfl,B⟩;rw[C.o];have G:=(Am B).cell _ _ G;have J:=qh (Q0 a.o B);clear B))
      go_roundw;case rel=>exact⟨j+1,by omega,by go_num,λq hq=>(by
       by_cases A1:q=j
       ·subst A1;rw[T.o,C.o];simp only[aK,b.o];rfl
       ·exact g.o q (by omega)),J.o⟩
      case measure=>simp[Bv];omega
   ·have A2:n.length<=j:=by omega
    go_wp2;go_ret;exact⟨Q2 (by rw[E.o];exact(Q13 λi hi=>g.o i (by omega)).symm),S.o⟩
theorem Qc9(w:Bh)(b o:Nat)(n:List Qb)(h:At Je w b o n)(hl:n.length<=1000000)(T:(Qs n).length<=10000000):
  Bq prog 156 #[.pointer (R ⟨b,o,N⟩)] w λe w'=>∃v,e=.returned v/\Qqe Q4 185 w.heap.size w' v (Qs n)/\Bi w.heap.size w w':=by
 obtain⟨p,c,c0,hc,hm,U⟩:=h.net;have HN:=qh U;have V:=qh T;have A4:=Ac w _ c0;simp only at A4;clear U h hm T;obtain⟨i0,A5,A6,A7,A8⟩:=info_parts Q7l;go_enter func156,ntmps156;go_wp2_with fail
 have W:=qh (Qqe.nil (t:=Q4) (e:=185) (B:=w.heap.size) (w:=w));go_loopw [3,12] (λu i wr=>∃(j:Nat),j<=n.length/\i=I Z j/\D (Qqe Q4 185 w.heap.size wr u (Q08 n j 0))/\D (Bi w.heap.size w wr)) (λ_ i _=>n.length-(Bv i).toNat);case atStart=>exact⟨0,Ak _,rfl,W.o.eqL (Qe6 n).symm,Ai _ _⟩
 case round=>
  rename Bh=>wo
  obtain⟨j,hj,rfl,G,C⟩:=hrel;clear W;by_cases F:j<n.length
  ·obtain⟨b1,o1,rfl,E⟩:=Rd.elem HN.o j F
   generalize hx:n[j]=x at E;obtain⟨k,l,v,d,ws⟩:=x;have H:D (Qn n j=(k,l,v,d,ws)):=qh (by rw[Qx F,hx]);have E:=E.kept (Am C.o);obtain⟨pd,cd,pw,cw,⟨J,X,Y,f,g⟩,-,-,⟨AJ,A9,AA⟩⟩:=E.agent;simp only[Ty.sz,Nat.reduceAdd]at J X Y f g;have AK:ws.length<=10000000:=by
    have h1:(Qs n).length<=10000000:=V.o;have m:(Q0i n j).length<=(Qs n).length:=by unfold Qs;exact(List.sublist_flatten_of_mem (List.mem_map.2 ⟨j,List.mem_range.2 F,rfl⟩)).length_le
    rw[V0,H.o]at m;simp only[aW]at m;omega
   have AB:D (Q08 n (j+1) 0=Q08 n j ws.length):=qh (Qd7 (by rw[H.o];exact Aj _));clear E hx AA A9;have AC:=Ac wo _ J;simp only at AC;go_upto_region 6 with fail
   refine Qq ?_;intro r K;have s:D (Bi w.heap.size w r):=qh (by rw[K];exact C.o.alloc C.o.size _);have y:=qh (G.o.kept (show Bi wo.heap.size wo r by rw[K];go_grown));clear K G J X Y f g;go_loopw [3,20] (λu i wr=>∃(q:Nat),q<=ws.length/\i=I Z q/\D (Qqe Q4 185 w.heap.size wr u (Q08 n j q))/\D (Bi w.heap.size w wr)) (λ_ i _=>ws.length-(Bv i).toNat);case atStart=>exact⟨0,Ak _,rfl,y.o,s.o⟩
   case round=>
    obtain⟨q,hq,rfl,M,O⟩:=hrel;clear y C s;by_cases AD:q<ws.length
    ·have z:D (Q08 n j (q+1)=Q08 n j q++ [((j:Int),(q:Int))]):=qh (Qea (by rw[H.o];exact AD))
     obtain⟨L,P⟩:∃L:List Wd,L=Q08 n j q:=⟨_,rfl⟩;have AE:D (L.length+1<=1000000000):=qh (by rw[P];have:=Qg6 (q:=q) F;have:=V.o;omega);rw[<-P]at M z;have AF:=qh (Q3p (a:=(j:Int)) (b:=(q:Int)) (by unfold Qqm;omega) (by unfold Qqm;omega));clear P;go_wp2_with(at_builtin;refine Q0e wr rfl (.tmp 23) (.tmp 27) 126 rfl (t:=Q4) rfl (by decide) w.heap.size 185 i0 _ 16 underlying126 A5 A6 A7 A8 rfl (by decide) (((j:Int),(q:Int)):Int×Int) #[I Z j,I Z q] rfl rfl M.o AF.o rfl AE.o O.o.size ?_;intro v1 w1 A0 A1 AG;have AH:=qh A0;have AI:=qh (O.o.trans A1);clear A0 A1 AG)
     go_roundw;case rel=>exact⟨q+1,by omega,by go_num,AH.o.eqL z.o.symm,AI.o⟩
     case measure=>simp[Bv];omega
    ·have A2:q=ws.length:=by omega
     have S:=qh A2;clear A2;go_wp2_with fail
     go_roundw;case rel=>exact⟨j+1,by omega,by go_num,M.o.eqL (by rw[AB.o,S.o]),O.o⟩
     case measure=>simp[Bv];omega
  ·have A3:j=n.length:=by omega
   have S:=qh A3;clear A3;go_wp2_with fail
   go_ret;exact⟨_,rfl,G.o.eqL (by rw[S.o,Qfs]),C.o⟩
theorem Qgp{w:Bh}{b o:Nat}{n:List Qb}(h:At Je w b o n){a s:Int}(L:0<=a)(M:a<n.length)(O:0<=s)(B:s<(aW (Q7 n a)).length):Qqm (Qt n (a,s)).1/\Qqm (Qt n (a,s)).2:=by
 obtain⟨P,S,T,-,-,G⟩:=h.net;have C:a.toNat<n.length:=by omega
 obtain⟨U,V,-,H⟩:=Rd.elem G a.toNat C;have E:Q7 n a=n[a.toNat]:=Qx C;rw[E]at B;unfold Qt;rw[E];generalize n[a.toNat]=x at *
 obtain⟨k,l,v,d,ws⟩:=x;obtain⟨W,X,Y,c,-,-,-,⟨-,-,J⟩⟩:=H.agent;have B:s<ws.length:=B;have F:s.toNat<ws.length:=by omega
 obtain⟨e,f,-,K⟩:=Rd.elem J s.toNat F;show Qqm (ws.getD s.toNat (0,0)).1/\Qqm (ws.getD s.toNat (0,0)).2;rw[Ab,Ad F];simp only[Option.getD_some];generalize ws[s.toNat]=y at *
 obtain⟨g,i⟩:=y;exact K.word.2.2
theorem Qnh{n:List Qb}{a s B C:Int}(h:Qt n (a,s)=(B,C))(q:(B==a && C==s)=Bn):Q0c n (a,s)=Bm:=by
 simp only[Bl,beq_iff_eq]at q;have:(Qt n (a,s)==(a,s))=Bn:=by rw[h,q.1,q.2];simp
 simp only[Q0c,this,Bool.not_true,Cn]
theorem Qmn{n:List Qb}{a s B C:Int}(h:Qt n (a,s)=(B,C))(q:(B==a && C==s)=Bm):Q0c n (a,s)=(Q0l n (B,C) && Qt n (B,C)==(a,s)):=by
 have:(Qt n (a,s)==(a,s))=Bm:=by rw[h,beq_eq_false_iff_ne];intro e;have E:=congrArg Prod.fst e;have F:=congrArg Prod.snd e;simp only at E F;rw[E,F]at q;simp at q
 simp only[Q0c,this,Bool.not_false,Dl];rw[h]
theorem Qp9(w:Bh)(b o:Nat)(n:List Qb)(h:At Je w b o n)(a s:Int)(l:0<=a)(m:a<n.length)(q:0<=s)(U:s<(aW (Q7 n a)).length)(H:(aW (Q7 n a)).length<=10000000):
  Bq prog 157 #[.agg #[I Z a,I Z s],.pointer (R ⟨b,o,N⟩)] w λe w'=>e=.returned (.bool (!Q0c n (a,s)))/\Bi w.heap.size w w':=by
 obtain⟨p,c,c0,hc,V,t⟩:=h.net;have u:=qh t;have v:=qh V;have W:=qh h;have X:=qh (Qgp h l m q U);have A1:=qh U;have AC:(n.length:Int)<=9223372036854775807:=by unfold Bp at V;omega
 obtain⟨⟨E,F⟩,Y⟩:∃r,Qt n (a,s)=r:=⟨_,rfl⟩;rw[Y]at X;have d:=qh Y;have AD:s<=10000000:=by omega
 clear t V h U Y H;go_enter func157,ntmps157;go_upto_region 1 with fail
 refine Qq ?_;intro K f;have x:D (Bi w.heap.size w K):=qh (by rw[f];go_grown);have A2:D (K.heap[w.heap.size]?=R (.cells #[I Z a,I Z s] 185 (0,0))):=qh (by rw[f];exact Bg w _);clear f;obtain⟨⟨L,M⟩,-⟩:=Za A2.o;go_upto_region 2 with((go_at_call 158;(with_reducible refine(Qa0 _ b o n (W.o.kept (Am x.o)) a s l m q A1.o).mono ?_);rintro e w1 ⟨rfl,C⟩;have y:=qh C;clear C;rw[d.o]))
 refine Qq ?_;intro G g;have i:D (Bi K.heap.size K G):=qh (by rw[g];exact y.o.alloc y.o.size _);have A3:D (G.heap[w1.heap.size]?=R (.cells #[I Z E,I Z F] 185 (0,0))):=qh (by rw[g];exact Bg w1 _);clear g;have O:=qh (Q0 x.o i.o);have P:=qh (Am O.o);obtain⟨⟨q0,q1⟩,-⟩:=Za A3.o;have L:=(Am i.o).cell _ _ L;have M:=(Am i.o).cell _ _ M;have z:=P.o.cell _ _ c0;have ij:Qqm a:=by unfold Qqm;omega
 have ik:Qqm s:=by unfold Qqm;omega
 have hq:=λw=>Qh7 X.o.1 X.o.2 ij ik w;cases t1:(E==a && F==s)with
 |true=>
  have S:=qh (Qnh d.o t1);rw[t1]at hq;go_quiet(fail)
  go_wp2;go_ret;exact⟨Q2 (by rw[S.o];rfl),Q6 O.o _⟩
 |false=>
  have S:=qh (Qmn d.o t1);rw[t1]at hq;clear t1;cases t2:Q0l n (E,F)with
  |false=>
   have j:D (Q0c n (a,s)=Bm):=qh (by rw[S.o,t2];rfl);(refine Z0 (λw'=>Bi G.heap.size G w') (by kernel_rfl) (by kernel_rfl) (Ai _ _).drew ?_;(repeat(first|go_big_quiet_skip|(go_big_quiet_want;apply Exists.intro;refine⟨λw' B=> ?_, ?_⟩;(focus(have A4:=(Am B).cell _ _ L;have A5:=(Am B).cell _ _ M;have A6:=(Am B).cell _ _ q0;have A7:=(Am B).cell _ _ q1;have A8:=(Am B).cell _ _ z;go_simp;first|done|with_reducible rfl|(exact(Qbt _ _ _ _ _ _ (u.o.kept (P.o.trans (Am B))) v.o).mono λe w3 ⟨J,C⟩=>⟨by rw[J,t2],Q0 B C⟩)));simp only[Act.put,Ci,Cs,Cw];go_big_quiet_on)));refine Ds ?_;intro wz H)
   go_wp2;go_ret;exact⟨Q2 (by rw[j.o];rfl),Q0 O.o H⟩
  |true=>
   have A0:=t2;simp only[Q0l,Bl,Ql]at A0;obtain⟨⟨g1,g2⟩,g3,g4⟩:=A0;have g5:E<(n.length:Int):=by omega
   have HG:D (F<(aW (Q7 n E)).length):=qh (by omega);have k:=qh (Qgp W.o g1 g5 g3 HG.o);obtain⟨⟨ea,es⟩,T⟩:∃r,Qt n (E,F)=r:=⟨_,rfl⟩;rw[T]at k;have A9:=qh T;have j:D (Q0c n (a,s)=(ea==a && es==s)):=qh (by rw[S.o,t2,T];rfl);have AA:=λw=>Qha k.o.1 k.o.2 ij ik w;clear T g4;cases t3:(ea==a && es==s)
   all_goals
    rw[t3]at AA;have AB:=qh (j.o.trans t3);clear t3;(refine Z0 (λw'=>Bi G.heap.size G w') (by kernel_rfl) (by kernel_rfl) (Ai _ _).drew ?_;(repeat(first|go_big_quiet_skip|(go_big_quiet_want;apply Exists.intro;refine⟨λw' B=> ?_, ?_⟩;(focus(have A4:=(Am B).cell _ _ L;have A5:=(Am B).cell _ _ M;have A6:=(Am B).cell _ _ q0;have A7:=(Am B).cell _ _ q1;have A8:=(Am B).cell _ _ z;go_simp;first|done|with_reducible rfl|(first|exact(Qbt _ _ _ _ _ _ (u.o.kept (P.o.trans (Am B))) v.o).mono λe w3 ⟨J,C⟩=>⟨by rw[J,t2],Q0 B C⟩|exact(Qa0 _ b o n (W.o.kept (P.o.trans (Am B))) E F g1 g5 g3 HG.o).mono λe w3 ⟨J,C⟩=>⟨by rw[J,A9.o],Q0 B C⟩)));simp only[Act.put,Ci,Cs,Cw];go_big_quiet_on)));refine Ds ?_;intro wz H)
    go_wp2;go_ret;exact⟨Q2 (by rw[AB.o];rfl),Q0 O.o H⟩
theorem Jw.nodup{cs:List Qb}:∀ {l:List Nat} {p:Int},Jw cs p l->l.Nodup:=by
 intro l p h;have B:=h.chain;have C:=Q68 B;have:∀(l:List Nat) (p:Int),Jw cs p l->V4 cs l.length p=l:=by
  intro l;induction l with
  |nil=>intro p _;rfl
  |cons a l ih=>intro p ⟨h1,h2,h3,h4⟩;subst h1;simp only[List.length_cons,V4,By,Q7,List.cons.injEq,true_and];exact ih _ h4
 rwa [this l p h]at C
theorem Jw.head{cs:List Qb}{a:Nat}{l:List Nat}{p:Int}(h:Jw cs p (a::l)):p=(a:Int)/\a<cs.length/\Jw cs (aV (Qn cs a)) l:=⟨h.1,h.2.1,h.2.2.2⟩
theorem Jw.take{cs:List Qb}{a:Nat}{l:List Nat}{p:Int}(h:Jw cs p (a::l))(y:Qb):Jw (cs.set a y) (aV (Qn cs a)) l:=
 h.2.2.2.set (Ar.1 h.nodup).1
def Yf(m:Qqp)(l:List Nat):Prop:=Jw (mC m) (mF m) l
theorem Yf.take{m:Qqp}{a:Nat}{l:List Nat}(h:Yf m (a::l))(y:Qb):Yf (Qj m y) l/\mF m=(a:Int)/\a<(mC m).length:=by
 obtain⟨B,C,E⟩:=Jw.head h;refine⟨?_,B,C⟩;have:=Jw.take h y;unfold Yf Qj;simp only[mC,mF]at *
 rw[B,By];unfold Q7;rw[By];exact this
theorem Yf.put{m:Qqp}{l:List Nat}(h:Yf m l){i:Int}(y:Qb)(B:i.toNat∉l):Yf (Qf0 m i y) l:=Jw.set h B
theorem Yf.release{m:Qqp}{l:List Nat}(h:Yf m l){i:Int}(C:0<=i)(E:i<(mC m).length)(B:i.toNat∉l):Yf (Qg m i) (i.toNat::l):=by
 have:=Jw.release (i:=i.toNat) h B (by omega);unfold Yf Qg;simp only[mC,mF]at *
 rw[show((i.toNat:Nat):Int)=i by omega]at this;exact this
theorem Qd(m:Qqp)(y:Qb):(mC (Qj m y)).length=(mC m).length:=by simp[Qj,mC]
theorem Q0o(m:Qqp)(i:Int)(y:Qb):(mC (Qf0 m i y)).length=(mC m).length:=by simp[Qf0,mC]
theorem Zk(m:Qqp)(i:Int):(mC (Qg m i)).length=(mC m).length:=by simp[Qg,mC]
theorem Q3v(m:Qqp)(a b:Int):(mC (Yu m a b)).length=(mC m).length:=rfl
theorem Y8(m:Qqp)(y:Qb)(j:Int):Q7 (mC (Qj m y)) j=if(mF m).toNat=j.toNat/\j.toNat<(mC m).length then y else Q7 (mC m) j:=by
 unfold Qj Q7;exact Q30
theorem Q2e(m:Qqp)(i:Int)(y:Qb)(j:Int):Q7 (mC (Qf0 m i y)) j=if i.toNat=j.toNat/\j.toNat<(mC m).length then y else Q7 (mC m) j:=by
 unfold Qf0 Q7;exact Q30
def Z5:Qb:=(13,0,0,[],[])
def Qv(m:Qqp):Qqp:=Qj m Z5
def Vb(m:Qqp)(i:Int)(x:Wd):Qqp:=Qa m i (aW (Q7 (mC m) i)++ [x])
def Qh(m:Qqp)(i k:Int)(x:Wd):Qqp:=Qa m i ((aW (Q7 (mC m) i)).set k.toNat x)
def Yr(lx c d:Int)(s:Qqp×List Qqt)(wd:Wd):Qqp×List Qqt:=
 let f:=mF s.1
 let m1:=Qj s.1 (4,lx,0,[],[])
 let u:=mF m1
 let m2:=Qv m1
 let v:=mF m2
 let m3:=Qv m2
 (Vb (Vb (Qa m3 f [(2,u),(2,v)]) c (2,u)) d (2,v),s.2++ [(wd,((1:Int),f))])
def Qd0(m:Qqp)(x y:Qb):Qqp×List Qqt:=
 let c:=mF m
 let m1:=Qj m (aK y,aL y,aV y,aD y,[])
 let d:=mF m1
 let m2:=Qj m1 (aK y,aL y,aV y,aD y,[])
 (aW y).foldl (Yr (aL x) c d) (m2,[((aW x).getD 0 (0,0),((1:Int),c)),((aW x).getD 1 (0,0),((1:Int),d))])
def Yn(s:Qqp×List Qqt)(wd:Wd):Qqp×List Qqt:=(Qj s.1 (5,0,0,[],[]),s.2++ [(wd,((1:Int),mF s.1))])
def Q12(x y:Qb):Int:=if aK y==10 then(aD y).getD (aV x).toNat 0 else if aV x==0 then(aD y).getD 1 0 else(aD y).getD 0 0
def Jb(m:Qqp)(l:Int):Nat->Qqp×List Int
 |0=>(m,[])
 |n+1=>(Qj (Jb m l n).1 (3,l,0,[],[]),(Jb m l n).2++ [mF (Jb m l n).1])
def Q1t(x y:Qb)(apps:List Int)(i:Nat):List Wd:=[(aW x).getD i (0,0),if i+1<apps.length then((1:Int),apps.getD (i+1) 0)else(aW y).getD 0 (0,0)]
def Yw(x y:Qb)(apps:List Int)(m:Qqp)(i:Nat):Qqp:=Qa m (apps.getD i 0) (Q1t x y apps i)
def Vy(m:Qqp)(x y:Qb):Qqp×List Qqt:=
 let c:=mF m
 let m1:=Qj m (12,aL y,Q12 x y,[],[])
 let s:=Jb m1 (aL y) (aW x).length
 if s.2.length=0 then(s.1,[((aW y).getD 0 (0,0),((1:Int),c))])
 else(Yu ((Bz s.2.length).foldl (Yw x y s.2) s.1) c (s.2.getD 0 0),[])
def Q3e(x:Qb)(l:Int):Qb:=(aK x,(if Y1 (aK x)then aL x+l else aL x),aV x,aD x,List.replicate ((aW x).length-1) (0,0))
def Q00(n:Qr2)(l:Int)(m:Qqp):Nat->Qqp
 |0=>m
 |j+1=>Qj (Q00 n l m j) (Q3e (Qn n (j+1)) l)
def Qqi(n:Qr2)(l:Int)(m:Qqp)(j:Nat):List Int:= -1::(Bz j).map λi=>mF (Q00 n l m i)
def Y7(at_:List Int)(en:Wd)(s:Qqp×Wd)(w:Qqt):Qqp×Wd:=
 let a:=w.1
 let b:=w.2
 let ca:=at_.getD a.1.toNat 0
 let cb:=at_.getD b.1.toNat 0
 if a.1==0 && b.2==0 then(s.1,((1:Int),cb))
 else if a.1==0 then(Qh s.1 cb (b.2-1) en,en)
 else if decide (0<a.2) && decide (0<b.2)then(Qh (Qh (Qv s.1) ca (a.2-1) (2,mF s.1)) cb (b.2-1) (2,mF s.1),s.2)
 else if decide (0<a.2)then(Qh s.1 ca (a.2-1) (1,cb),s.2)
 else if decide (0<b.2)then(Qh s.1 cb (b.2-1) (1,ca),s.2)
 else s
def V5(n:Qr2)(l:Int)(en:Wd)(m:Qqp):Qqp×Wd:=
 let at_:=Qqi n l m (n.length-1)
 let s:=(Yk n).foldl (Y7 at_ en) (Q00 n l m (n.length-1),(0,0))
 ((Yd n).foldl (λm p=>Yu m (at_.getD p.1.toNat 0) (at_.getD p.2.toNat 0)) s.1,s.2)
def Vo(bk:List Qr2)(m:Qqp)(x:Qb)(b:Int):Qqp:=
 let s:=V5 (netOf' bk (aV x)) (aL x) (1,b) m
 if s.2.2 !=b then Yu s.1 b s.2.2 else s.1
 where netOf' (bk:List Qr2) (v:Int):Qr2:=bk.getD v.toNat []
def Q4r(m:Qqp)(x y:Qb):Qqp×List Qqt:=
 (Qj m (if aK y==8 then(6,0,Jd (aV y) ((aD y).getD 0 0) (aV x),[],[])else(8,aL y,aV y,[aV x],[(aW y).getD 1 (0,0)])),[((aW y).getD 0 (0,0),((1:Int),mF m))])
def Jf(bk:List Qr2)(m:Qqp)(c a b:Int):Qqp×List Qqt:=
 let x:=Q7 (mC m) a
 let y:=Q7 (mC m) b
 let m1:=Qg m a
 if c==7 then(Vo bk m1 x b,[])
 else
  let m2:=Qg m1 b
  if c==1||c==2 then(m2,[((aW x).getD 0 (0,0),(aW y).getD 0 (0,0)),((aW x).getD 1 (0,0),(aW y).getD 1 (0,0))])
  else if c==3 then Qd0 m2 x y
  else if c==4 then(aW y).foldl Yn (m2,[])
  else if c==5 then Q4r m2 x y
  else if c==6 then Vy m2 x y
  else(m2,[])
def Qpx(m:Qqp)(xs:List Wd):Qqp:=(mC m,mF m,mR m,xs)
def Q5f(l:Qqt):Qqt:=if l.2.1==2 && (l.1.1 !=2||decide (l.1.2<l.2.2))then(l.2,l.1)else l
def Q33(w:Qqb):Qqt:=(wL w).getD 0 ((0,0),(0,0))
def Q26(m:Qqp)(i:Int):List Wd:=aW (Q7 (mC m) i)
def Jq(m:Qqp)(w:Qqb):Qqp×Qqb:=
 let a:=(Q5f (Q33 w)).1
 let b:=(Q5f (Q33 w)).2
 if a.1==2 && !(a==b)then
  if 0<(Q26 m a.2).length then(Qg m a.2,(wP w,wV w,wX w,((Q26 m a.2).getD 0 (0,0),b)::(wL w).drop 1,wC w))
  else(Qa m a.2 [b],(wP w,wV w,wX w,(wL w).drop 1,wC w))
 else if a.1==2 then(Qg m a.2,(wP w,wV w,wX w,(wL w).drop 1,wC w))
 else(m,(wP w,wV w,wX w++ [(min a.2 b.2,max a.2 b.2)],(wL w).drop 1,wC w))
def Ya(w:Qqb):Wd:=(wX w).getD ((wX w).length-1) (0,0)
def Q0k(bk:List Qr2)(m:Qqp)(w:Qqb):Int:=
 if(Zn bk (mC m) (Ya w)).2 !=0 then(Zn bk (mC m) (Ya w)).2
 else if decide ((Z3 (mC m):Int)+Zm (Z4 (mC m) (Ya w))<(Zn bk (mC m) (Ya w)).1)||decide (1000000000<=(wC w).getD (Z4 (mC m) (Ya w)-1).toNat 0)then 4 else 0
def Qef(bk:List Qr2)(m:Qqp)(w:Qqb):Qqp×Qqb:=
 let c:=Z4 (mC m) (Ya w)
 let r:=Jf bk m c (Zl (mC m) (Ya w)).1 (Zl (mC m) (Ya w)).2
 (Qpx r.1 [],(wP w,wV w,(wX w).take ((wX w).length-1)++mX r.1,r.2,(wC w).set (c-1).toNat ((wC w).getD (c-1).toNat 0+1)))
def Qim(p:J9)(k:Nat):Qqb:=Q5 p (wV (Q5 p k)).toNat
def Q1s(p:J9)(k:Nat):Bool:= !(wV (Q5 p k)==(k:Int)) && decide (0<(wX (Qim p k)).length)
def J7(w:Qqb)(ph:Int):Qqb:=(ph,wV w,wX w,wL w,wC w)
def Q5c(w:Qqb)(v:Int):Qqb:=(wP w,v,wX w,wL w,wC w)
def J0(w:Qqb)(xs:List Wd):Qqb:=(wP w,wV w,xs,wL w,wC w)
def Ye(bk:List Qr2)(p:J9)(k:Nat):Int×J9:=
 let w:=Q5 p k
 let n:Int:=(pW p).length
 if 0<(wL w).length then(0,((Jq (pM p) w).1,(pW p).set k (Jq (pM p) w).2,pA p))
 else if 0<(wX w).length then
  if Q0k bk (pM p) w==0 then(0,((Qef bk (pM p) w).1,(pW p).set k (Qef bk (pM p) w).2,pA p))else(Q0k bk (pM p) w,p)
 else if wP w==1 then(0,(pM p,(pW p).set k (Q5c (J7 w 2) (Q17 n k k)),pA p-1))
 else if wP w==3 then
  if Q1s p k then(0,(pM p,((pW p).set k (J7 (J0 w [(wX (Qim p k)).getD 0 (0,0)]) 1)).set (wV w).toNat (J0 (Qim p k) ((wX (Qim p k)).drop 1)),pA p))
  else(0,(pM p,(pW p).set k (J7 w 2),pA p-1))
 else if pA p==0 then(0,(pM p,(pW p).set k (J7 w 4),pA p))
 else if Q1s p k then(0,(pM p,(pW p).set k (J7 w 3),pA p+1))
 else(0,(pM p,(pW p).set k (Q5c w (Q17 n (wV w) k)),pA p))
def Zr(bk:List Qr2)(p:J9)(out:List J9)(k:Int):List J9:=
 if(Ye bk p k.toNat).1==0 && !(out.any λq=>Qqu Qr q (Ye bk p k.toNat).2)then out++ [(Ye bk p k.toNat).2]else out
def Qfp(bk:List Qr2)(p:J9):List J9:=(Q1b p).foldl (Zr bk p) []
def Qd5(c:Int)(x y:Qb)(n:Nat):Prop:=
 ((c=1\/c=2)->(aW x).length=2/\(aW y).length=2)/\(c=3->(aW x).length=2/\3 * (aW y).length<=n)/\(c=4->(aW y).length<=n+2)/\
 (c=5->(aK y=8->0<(aD y).length/\0<(aW y).length)/\(aK y≠8->2<=(aW y).length))/\
 (c=6->(aW x).length<=n+1/\0<(aW y).length/\0<(aD y).length/\(aK y=10->0<=aV x/\aV x<(aD y).length)/\(aK y≠10->2<=(aD y).length))
theorem Qdc(bk:List Qr2)(m:Qqp)(B a b:Int)(h:B≠7):Jf bk m B a b=(if B==1||B==2 then(Qg (Qg m a) b,[((aW (Q7 (mC m) a)).getD 0 (0,0),(aW (Q7 (mC m) b)).getD 0 (0,0)),((aW (Q7 (mC m) a)).getD 1 (0,0),(aW (Q7 (mC m) b)).getD 1 (0,0))])
  else if B==3 then Qd0 (Qg (Qg m a) b) (Q7 (mC m) a) (Q7 (mC m) b)
  else if B==4 then(aW (Q7 (mC m) b)).foldl Yn (Qg (Qg m a) b,[])
  else if B==5 then Q4r (Qg (Qg m a) b) (Q7 (mC m) a) (Q7 (mC m) b)
  else if B==6 then Vy (Qg (Qg m a) b) (Q7 (mC m) a) (Q7 (mC m) b)
  else(Qg (Qg m a) b,[])):=by
 have:(B==7)=Bm:=by simpa using h
 unfold Jf;simp only[this,Bool.false_eq_true,if_false]
theorem Q93(B a b:Int):Qqm (Jd B a b):=by
 have C:=Q8d (Qr5 a+Qr5 b);have E:=Q8d (Qr5 a-Qr5 b);have F:=Q8d (wrap64 (Qr5 a * Qr5 b));have G:=Q8d (wrap64 ((Qr5 a).tdiv (Qr5 b)));unfold Jd Q23 Qqm;repeat' split
 all_goals omega
end Go.Proofs.YthbpkpnioaniiaaGreat
