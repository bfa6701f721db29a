/- FnExactFindWorkers holds for every input, its table tied to the text of the program; no condition. -/
import Derived.Test.YtcjngpfigpglfaaGreatDoorCards
import Derived.Test.YtcjngpfigpglfaaGreatDoorTie
import Derived.LaidMore
import Derived.Test.YtcjngpfigpglfaaGreatDoorP24
set_option maxHeartbeats 0
set_option maxRecDepth 100000
set_option linter.all false
namespace Go.Proofs.YtcjngpfigpglfaaGreatDoor
open Go.RowKit Go.Proofs.Tryz
open Go.Value renaming int->I,slice->A
open Go.IntKind renaming i64->Z
open Option renaming none->N,some->R
open OC(oC)
open OR(oR)
open JN(jN)
open Bool renaming true->Bn,false->Bm
open Go.ChangeShapes Go.WideShapes Go.ChangeAt Go.RowKit
def Qx9:ownKnob prog.godebug=N:=by kernel_rfl
def Quj:laidOutB prog=Bn:=by kernel_rfl
def Qwz:Qvq prog 9 (.slice Jl) 22=Bn:=by kernel_rfl
def Qwi:Qvq prog 9 Qv 31=Bn:=by kernel_rfl
def Qx7:∃B,prog.underlying 31=R (.struct B):=by
 have h:((prog.underlying 31).map λd=>match d with| .struct _=>Bn|_=>Bm)=R Bn:=by kernel_rfl
 cases hu:prog.underlying 31 with
 |none=>rw[hu]at h;cases h
 |some d=>rw[hu]at h;cases d<;>first|exact⟨_,rfl⟩|cases h
abbrev Qdq:List (String×DataW Unit):=[("math/bits.deBruijn32tab",Rows.laid_math_bits_deBruijn32tab),("math/bits.deBruijn64tab",Rows.laid_math_bits_deBruijn64tab),("internal/strconv.uint64pow10",Rows.laid_internal_strconv_uint64pow10)]
theorem Qw9:(Rows.laid_internal_strconv_uint64pow10:DataW Unit)=Lib.tabData .u64 Lib.pow10Tab:=by rfl
def Qvk{W}(h:laidMetH prog Qdq W):Lib.TabIs prog W "internal/strconv.uint64pow10" .u64 Lib.pow10Tab:=by
 rw[MakeChecks.laidMetH_plain _ _ _ (by kernel_rfl)]at h;obtain⟨H,⟨_,_,_,_,_,_,_,_,_,_,⟨_,_,_,_,_,_,_,_,_,_,C,_⟩,_⟩,J,K⟩:=h;obtain⟨L,M,O,P,S,T,E,F,G,B,_,_⟩:=C;obtain rfl:=Option.some.inj ((show prog.globalNamed "internal/strconv.uint64pow10" =R 0 by kernel_rfl).symm.trans E);obtain rfl:=Option.some.inj ((show(prog.globals[0]?).map (·.type)=R 344 by kernel_rfl).symm.trans F);rw[Qw9]at B;unfold Lib.TabIs;rw[G,<-Lib.cells_of_tab underlying344 underlying300 (by kernel_rfl) (by kernel_rfl) B]
def Qt4(os B):laidMetH prog Qdq ((World.doorLaid prog 400 os).forCall (λ_ _=>0) ⟨#[],B,[]⟩).memory:=
 laidMetH_of_parts3 (fuel:=8) (laidMet_of_run' 8 (by kernel_rfl) (by kernel_rfl)) (by kernel_rfl) (by kernel_rfl)
def Qvt{n}(h:(Lit.int Z n).wf):Qyn n:=by
 unfold Qyn;simpa[Lit.wf,IntKind.min,IntKind.max,IntKind.signed,IntKind.bits]using h
def Qpa(H Qxp W f C K)(g:List (DataW H))(Vm)(E:∀(j:Nat) t v,Tryz.f3.params[j]?=R t->C[j]?=R v->Value.okWide prog W .any f t v)(F:DataW.Whole Qxp prog Tryz.f3.params.toList Rows.fnExactFindWorkersSpec.vars Bm W C.toList K g Vm)(i:laidMetH prog Qdq W):
  Calls prog 3 C W λe L=>∃v,e=.returned v/\Rows.fnExactFindWorkersSpec.post Qxp prog Tryz.f3 Bm Bn Bm Bm W C v L:=by
 have k:=Qvk i;have M:=F;have O:=F.lt;obtain⟨p,q,P,l,rfl,A9,AA⟩:=F;have S:DataW.TrodAll Qxp prog W 0 (λ_=>Bn) Bn Tryz.f3.params.toList C.toList K p:=P;rw[Tryz.params3]at S E;obtain⟨m,v1,o,r,s,u,w,d3,p0,y,z,p3,rfl,rfl,rfl,T,U,V,h3⟩:=trodAll_four S;obtain⟨rfl,rfl⟩:=trodVars_none l;have A0:=T;have A1:=U;have A2:=V;obtain⟨m0,A3⟩:=T;obtain⟨m1,A4⟩:=U;obtain⟨m2,A5⟩:=V;obtain⟨most,rfl,rfl,rfl,X⟩:=open_int underlying2 (E 3 2 r rfl rfl) h3;obtain⟨bk,A6⟩:=Qbt 9 _ _ _ _ _ Qwz A3;obtain⟨pl,A7⟩:=Qbt 9 _ _ _ _ _ Qwi A4;obtain⟨ql,A8⟩:=Qbt 9 _ _ _ _ _ Qwi A5;obtain⟨a,n,c,rfl⟩:=okWide_slice underlying22 (E 0 22 m rfl rfl);obtain⟨fs,Y⟩:=Qx7;obtain⟨cs,rfl,-⟩:=okWide_struct Y (E 1 31 v1 rfl rfl);obtain⟨G,rfl,-⟩:=okWide_struct Y (E 2 31 o rfl rfl);clear P;simp only[List.append_nil]at M O;have b:=Qvv W (A a n c) bk cs.toList pl G.toList ql most (Qvt X) A6 A7 A8 k;rw[show cs.toList.toArray=cs from rfl,show G.toList.toArray=G from rfl]at b;refine b.mono λe L ⟨he,hb⟩=>⟨_,he, ?_⟩;have J:∀x∈p0++(y++(z++ [])),x.block<W.heap.size:=λx B=>O x (by simpa using B);refine⟨[s,u,w,.lit (Lit.int Z most)],[],_,[],_,[],M,trodAll_mk1 (shut_bool underlying4 _), ?_,rfl,World.keptBut_mono (λp d=>⟨d,.inr (.inl d)⟩) (hb.frame _),λh=>by cases h⟩;have h:=trodAll_mk4 (Below.trod Quj (by kernel_rfl) (of_decide_eq_true (by kernel_rfl)) A0 hb λx B=>J x (by simp[B])) (Below.trod Quj (by kernel_rfl) (of_decide_eq_true (by kernel_rfl)) A1 hb λx B=>J x (by simp[B])) (Below.trod Quj (by kernel_rfl) (of_decide_eq_true (by kernel_rfl)) A2 hb λx B=>J x (by simp[B])) (shut_int underlying2 X);rw[List.append_nil,<-List.append_assoc]at h;exact h
def Qut(os)(E:os.Started)(H)(Qxp:TypeId×Value->H):
  ReturnsInHanded {} Tryz.checked os 3 .any (λw B=>(Rows.fnExactFindWorkersSpec.pre Qxp prog Tryz.f3 [] Bm w B/\laidMetH prog Qdq w)/\sizedMet Qxp prog Tryz.f3 (OpenSpec.ofChange Rows.fnExactFindWorkersSpec) Bm w B)
   (Rows.fnExactFindWorkersSpec.post Qxp prog Tryz.f3 Bm Bn Bm Bm):=by
 refine returnsInHanded_of_change_and (C:=Tryz.checked) (X:=λw _=>laidMetH prog Qdq w) (λ_ _ _ F h=>h.of_heap F) Qx9 E (by kernel_rfl) func3
  (ChangeSpec.witness_shaped (enc:=Qxp) (C:=Tryz.checked) (os:=os) (X:=λw _=>laidMetH prog Qdq w) Bm (World.doorLaid prog 400 os) #[jN,.agg #[jN,(),(),(),jN,jN,()],.agg #[jN,(),(),(),jN,jN,()],()] 8 rfl (World.shaped_of_RefB (by kernel_rfl) (by kernel_rfl)) (by kernel_rfl) (by kernel_rfl) (by kernel_rfl) (Qt4 os _)) ?_
 intro W G B J K Vm L M _ _ O _;exact Qpa H Qxp W G B J K Vm L M O
def Qhh(os)(B:os.Started)(H)(Qxp:TypeId×Value->H):ReturnsInHanded Rows.fnExactFindWorkersRow.assume Tryz.pinned.checked os 3 .any (Rows.fnExactFindWorkersRow.pre Qxp Tryz.pinned.checked.prog Tryz.f3 (OpenSpec.ofChange Rows.fnExactFindWorkersSpec)) (Rows.fnExactFindWorkersSpec.post Qxp Tryz.pinned.checked.prog Tryz.f3 Rows.fnExactFindWorkersRow.apart Rows.fnExactFindWorkersRow.fresh Rows.fnExactFindWorkersRow.handsOn Rows.fnExactFindWorkersRow.again):=Qut os B H Qxp
def Qw1:Tryz.pinned.checked.prog.funcNamed Rows.fnExactFindWorkersRow.func=R 3:=by kernel_rfl
def Qvj:joinedFacts Tryz.pinned.checked.prog 3 Tryz.f3 Rows.fnExactFindWorkersSpec Rows.fnExactFindWorkersRow=Bn:=by kernel_rfl
def Qo8:Tryz.f3.isInstance Tryz.pinned.checked.prog Rows.fnExactFindWorkersRow.origin Rows.fnExactFindWorkersRow.targs:=of_decide_eq_true (by kernel_rfl)
def Qsc:Tryz.f3.isWrapper Tryz.pinned.checked.prog Rows.fnExactFindWorkersRow.wrapper Rows.fnExactFindWorkersRow.mainSum:=by unfold Func.isWrapper;first|(rw[if_pos (by decide+kernel)];kernel_rfl)|(rw[if_neg (by decide+kernel)];exact⟨rfl,rfl⟩)
def Qnt:Rows.FnExactFindWorkersSaid:=
 OpenClaim.holds_of_wide 3 Tryz.f3 rfl rfl rfl rfl rfl rfl rfl ⟨rfl,rfl,rfl,rfl,rfl⟩ rfl rfl rfl rfl rfl Qw1 func3 Qvj Qo8 Qsc
  (λos B H Qxp _=>Qhh os B H Qxp)
theorem find_card:Rows.FnExactFindWorkersCardSaid:=
 Claim7.holds_tied_plain_at .later [] [.data,.data,.data] Bn (Bn, "aefe0ff74265404070a116b12097d551a083de430656f66265e143dcb0df5c6b") Bm Qnt (λ_ h=>by cases h) (by kernel_rfl) (λ_ h=>by cases h) fnExactFindWorkers_row_tie rfl ⟨rfl,rfl⟩ (by kernel_rfl) rfl
  (λf C E F=>by
   obtain rfl:f=3:=Option.some.inj ((show prog.funcNamed "loop.example/g01074/laws.FnExactFindWorkers" =R 3 by kernel_rfl).symm.trans E)|>.symm;obtain rfl:C=Tryz.f3:=(Option.some.inj (func3.symm.trans F)).symm;exact⟨by kernel_rfl,λj t B=>by
    rw[Tryz.params3]at B;have G:t∈ [22,31,31,2]:=by simpa using Array.mem_of_getElem? B
    have H:([22,31,31,2].all λu=> !prog.wantsStandIn u)=Bn:=by kernel_rfl
    exact(show prog.wantsStandIn t=Bm by simpa using Bf.1 H t G)⟩)
  (by kernel_rfl)
#print axioms find_card
end Go.Proofs.YtcjngpfigpglfaaGreatDoor
