/- FnExactExplorePool holds for every input, its table tied to the text of the program; no condition. -/
import Derived.Test.YtcjngpfigpglfaaGreatDoorCards
import Derived.Test.YtcjngpfigpglfaaGreatDoorTie
import Derived.LaidMore
import Derived.Test.YtcjngpfigpglfaaGreatDoorP27
set_option maxHeartbeats 0
set_option maxRecDepth 100000
set_option linter.all false
namespace Go.Proofs.YtcjngpfigpglfaaGreatDoor
open Go.RowKit Go.Proofs.Tryz
open Go.Value renaming int->I,slice->A
open Go.IntKind renaming i64->Z
open Option renaming none->N,some->R
open OC(oC)
open OR(oR)
open JN(jN)
open Bool renaming true->Bn,false->Bm
open Go.ChangeShapes Go.WideShapes Go.ChangeAt Go.RowKit
def Qzn:ownKnob prog.godebug=N:=by kernel_rfl
def Qzi:laidOutB prog=Bn:=by kernel_rfl
def Qzh:Qvq prog 9 (.slice Jl) 22=Bn:=by kernel_rfl
def Qzj:Qvq prog 9 Qv 31=Bn:=by kernel_rfl
def Qzl:∃B,prog.underlying 31=R (.struct B):=by
 have h:((prog.underlying 31).map λd=>match d with| .struct _=>Bn|_=>Bm)=R Bn:=by kernel_rfl
 cases hu:prog.underlying 31 with
 |none=>rw[hu]at h;cases h
 |some d=>rw[hu]at h;cases d<;>first|exact⟨_,rfl⟩|cases h
abbrev Qqj:List (String×DataW Unit):=[("math/bits.deBruijn32tab",Rows.laid_math_bits_deBruijn32tab),("math/bits.deBruijn64tab",Rows.laid_math_bits_deBruijn64tab),("internal/strconv.uint64pow10",Rows.laid_internal_strconv_uint64pow10)]
theorem Qw9:(Rows.laid_internal_strconv_uint64pow10:DataW Unit)=Lib.tabData .u64 Lib.pow10Tab:=by rfl
def Qvk{W}(h:laidMetH prog Qqj W):Lib.TabIs prog W "internal/strconv.uint64pow10" .u64 Lib.pow10Tab:=by
 rw[MakeChecks.laidMetH_plain _ _ _ (by kernel_rfl)]at h;obtain⟨H,⟨_,_,_,_,_,_,_,_,_,_,⟨_,_,_,_,_,_,_,_,_,_,C,_⟩,_⟩,J,K⟩:=h;obtain⟨L,M,O,P,S,T,E,F,G,B,_,_⟩:=C;obtain rfl:=Option.some.inj ((show prog.globalNamed "internal/strconv.uint64pow10" =R 0 by kernel_rfl).symm.trans E);obtain rfl:=Option.some.inj ((show(prog.globals[0]?).map (·.type)=R 344 by kernel_rfl).symm.trans F);rw[Qw9]at B;unfold Lib.TabIs;rw[G,<-Lib.cells_of_tab underlying344 underlying300 (by kernel_rfl) (by kernel_rfl) B]
def Qt4(os B):laidMetH prog Qqj ((World.doorLaid prog 400 os).forCall (λ_ _=>0) ⟨#[],B,[]⟩).memory:=
 laidMetH_of_parts3 (fuel:=8) (laidMet_of_run' 8 (by kernel_rfl) (by kernel_rfl)) (by kernel_rfl) (by kernel_rfl)
def Qvt{n}(h:(Lit.int Z n).wf):Qyn n:=by
 unfold Qyn;simpa[Lit.wf,IntKind.min,IntKind.max,IntKind.signed,IntKind.bits]using h
def Qyz(H Qxp W Y B G)(b:List (DataW H))(Vm)(E:∀(j:Nat) t v,Tryz.f4.params[j]?=R t->B[j]?=R v->Value.okWide prog W .any Y t v)(F:DataW.Whole Qxp prog Tryz.f4.params.toList Rows.fnExactExplorePoolSpec.vars Bm W B.toList G b Vm)(d:laidMetH prog Qqj W):
  Calls prog 4 B W λe J=>∃v,e=.returned v/\Rows.fnExactExplorePoolSpec.post Qxp prog Tryz.f4 Bm Bn Bm Bm W B v J:=by
 have f:=Qvk d;have K:=F;have L:=F.lt;obtain⟨p,q,M,g,rfl,A2,A3⟩:=F;have O:DataW.TrodAll Qxp prog W 0 (λ_=>Bn) Bn Tryz.f4.params.toList B.toList G p:=M;rw[Tryz.params4]at O E;obtain⟨i,v1,k,l,m,d2,p0,o,p2,rfl,rfl,rfl,P,S,r⟩:=trodAll_three O;obtain⟨rfl,rfl⟩:=trodVars_none g;have s:=P;have u:=S;obtain⟨m0,w⟩:=P;obtain⟨m1,y⟩:=S;obtain⟨most,rfl,rfl,rfl,T⟩:=open_int underlying2 (E 2 2 k rfl rfl) r;obtain⟨bk,z⟩:=Qbt 9 _ _ _ _ _ Qzh w;obtain⟨pl,A0⟩:=Qbt 9 _ _ _ _ _ Qzj y;obtain⟨a,n,c,rfl⟩:=okWide_slice underlying22 (E 0 22 i rfl rfl);obtain⟨fs,A1⟩:=Qzl;obtain⟨cs,rfl,-⟩:=okWide_struct A1 (E 1 31 v1 rfl rfl);clear M;simp only[List.append_nil]at K L;have U:=Qzg W (A a n c) bk cs.toList pl most (Qvt T) z A0 f;rw[show cs.toList.toArray=cs from rfl]at U;refine U.mono λe J ⟨he,hb⟩=>⟨_,he, ?_⟩;have V:∀x∈p0++o,x.block<W.heap.size:=λx C=>L x (by simpa using C);refine⟨[l,m,.lit (Lit.int Z most)],[],_,[],_,[],K,trodAll_mk1 (shut_bool underlying4 _), ?_,rfl,World.keptBut_mono (λp X=>⟨X,.inr (.inl X)⟩) (hb.frame _),λh=>by cases h⟩;have h:=trodAll_mk3 (Below.trod Qzi (by kernel_rfl) (of_decide_eq_true (by kernel_rfl)) s hb λx C=>V x (by simp[C])) (Below.trod Qzi (by kernel_rfl) (of_decide_eq_true (by kernel_rfl)) u hb λx C=>V x (by simp[C])) (shut_int underlying2 T);rw[List.append_nil]at h;exact h
def Qzf(os)(E:os.Started)(H)(Qxp:TypeId×Value->H):
  ReturnsInHanded {} Tryz.checked os 4 .any (λw B=>(Rows.fnExactExplorePoolSpec.pre Qxp prog Tryz.f4 [] Bm w B/\laidMetH prog Qqj w)/\sizedMet Qxp prog Tryz.f4 (OpenSpec.ofChange Rows.fnExactExplorePoolSpec) Bm w B)
   (Rows.fnExactExplorePoolSpec.post Qxp prog Tryz.f4 Bm Bn Bm Bm):=by
 refine returnsInHanded_of_change_and (C:=Tryz.checked) (X:=λw _=>laidMetH prog Qqj w) (λ_ _ _ F h=>h.of_heap F) Qzn E (by kernel_rfl) func4
  (ChangeSpec.witness_shaped (enc:=Qxp) (C:=Tryz.checked) (os:=os) (X:=λw _=>laidMetH prog Qqj w) Bm (World.doorLaid prog 400 os) #[jN,.agg #[jN,(),(),(),jN,jN,()],()] 8 rfl (World.shaped_of_RefB (by kernel_rfl) (by kernel_rfl)) (by kernel_rfl) (by kernel_rfl) (by kernel_rfl) (Qt4 os _)) ?_
 intro W G B J K Vm L M _ _ O _;exact Qyz H Qxp W G B J K Vm L M O
def Qzo(os)(B:os.Started)(H)(Qxp:TypeId×Value->H):ReturnsInHanded Rows.fnExactExplorePoolRow.assume Tryz.pinned.checked os 4 .any (Rows.fnExactExplorePoolRow.pre Qxp Tryz.pinned.checked.prog Tryz.f4 (OpenSpec.ofChange Rows.fnExactExplorePoolSpec)) (Rows.fnExactExplorePoolSpec.post Qxp Tryz.pinned.checked.prog Tryz.f4 Rows.fnExactExplorePoolRow.apart Rows.fnExactExplorePoolRow.fresh Rows.fnExactExplorePoolRow.handsOn Rows.fnExactExplorePoolRow.again):=Qzf os B H Qxp
def Qzk:Tryz.pinned.checked.prog.funcNamed Rows.fnExactExplorePoolRow.func=R 4:=by kernel_rfl
def Qze:joinedFacts Tryz.pinned.checked.prog 4 Tryz.f4 Rows.fnExactExplorePoolSpec Rows.fnExactExplorePoolRow=Bn:=by kernel_rfl
def Qz0:Tryz.f4.isInstance Tryz.pinned.checked.prog Rows.fnExactExplorePoolRow.origin Rows.fnExactExplorePoolRow.targs:=of_decide_eq_true (by kernel_rfl)
def Qza:Tryz.f4.isWrapper Tryz.pinned.checked.prog Rows.fnExactExplorePoolRow.wrapper Rows.fnExactExplorePoolRow.mainSum:=by unfold Func.isWrapper;first|(rw[if_pos (by decide+kernel)];kernel_rfl)|(rw[if_neg (by decide+kernel)];exact⟨rfl,rfl⟩)
def Qrr:Rows.FnExactExplorePoolSaid:=
 OpenClaim.holds_of_wide 4 Tryz.f4 rfl rfl rfl rfl rfl rfl rfl ⟨rfl,rfl,rfl,rfl,rfl⟩ rfl rfl rfl rfl rfl Qzk func4 Qze Qz0 Qza
  (λos B H Qxp _=>Qzo os B H Qxp)
theorem explore_card:Rows.FnExactExplorePoolCardSaid:=
 Claim7.holds_tied_plain_at .later [] [.data,.data,.data] Bn (Bn, "aefe0ff74265404070a116b12097d551a083de430656f66265e143dcb0df5c6b") Bm Qrr (λ_ h=>by cases h) (by kernel_rfl) (λ_ h=>by cases h) fnExactExplorePool_row_tie rfl ⟨rfl,rfl⟩ (by kernel_rfl) rfl
  (λf C E F=>by
   obtain rfl:f=4:=Option.some.inj ((show prog.funcNamed "loop.example/g01074/laws.FnExactExplorePool" =R 4 by kernel_rfl).symm.trans E)|>.symm;obtain rfl:C=Tryz.f4:=(Option.some.inj (func4.symm.trans F)).symm;exact⟨by kernel_rfl,λj t B=>by
    rw[Tryz.params4]at B;have G:t∈ [22,31,2]:=by simpa using Array.mem_of_getElem? B
    have H:([22,31,2].all λu=> !prog.wantsStandIn u)=Bn:=by kernel_rfl
    exact(show prog.wantsStandIn t=Bm by simpa using Bf.1 H t G)⟩)
  (by kernel_rfl)
#print axioms explore_card
end Go.Proofs.YtcjngpfigpglfaaGreatDoor
