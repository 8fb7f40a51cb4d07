/- The statement ProofTruth (its tied card): for every input the law returns true, and the input reads as it did. Conditions: the listed package-level variables hold what the program's text lays (tied by the card). -/
import Derived.Test.YtlkdhannldcfbaaGreatDoorEz
import Derived.Test.YtlkdhannldcfbaaGreatDoorCards
import Derived.Test.YtlkdhannldcfbaaGreatDoorTie
import Derived.Test.YtlkdhannldcfbaaGreatDoorQe1
import Derived.LaidMore
import Derived.Lay
import Derived.SevenTiedAt
import Derived.Stop.Joined
import Derived.Test.YtlkdhannldcfbaaGreatDoorTkJ
set_option linter.unusedVariables false
set_option linter.unusedSimpArgs false
namespace Go.Proofs.YtlkdhannldcfbaaGreatDoor.proofTruth
open Go.Proofs.Tryz
open Go.ChangeShapes Go.WideShapes Go.ChangeAt Go.RowKit
open Go Gw
theorem own:ownKnob Tryz.prog.godebug=none:=by kernel_rfl
theorem laidOut:laidOutB Tryz.prog=true:=by kernel_rfl
set_option maxRecDepth 100000 in
theorem lifted(os:Os)(y:os.Started)(H:Type)(enc:TypeId×Value→H):
 ReturnsInHanded {} Tryz.checked os 3 .any (fun w args=>(Rows.proofTruthSpec.pre enc Tryz.prog Tryz.f3 Rows.proofTruthRow.domain false w args∧laidMetH Tryz.prog Rows.proofTruthRow.laid w)∧sizedMet enc Tryz.prog Tryz.f3 (OpenSpec.ofChange Rows.proofTruthSpec) false w args)
  (Rows.proofTruthSpec.post enc Tryz.prog Tryz.f3 false true false false):=by
 refine returnsInHanded_of_change_and (C:=Tryz.checked) (X:=fun w _=>laidMetH Tryz.prog Rows.proofTruthRow.laid w) (fun _ _ _ hh h=>h.of_heap hh) own y (by kernel_rfl) func3
  (ChangeSpec.witness_shaped (enc:=enc) (C:=Tryz.checked) (os:=os) (X:=fun w _=>laidMetH Tryz.prog Rows.proofTruthRow.laid w) false (World.laidAll Tryz.prog os Rows.proofTruthRow.laid) #[.agg #[.slice none 0 0,.int .i64 0,.int .i64 0,.int .i64 0,.int .i64 0,.int .i64 0,.int .i64 0,.int .i64 0,.slice none 0 0]] 8 (World.laidAll_os _ _ _)
    (World.shaped_of_ZipB (by kernel_rfl) (by kernel_rfl)) (by kernel_rfl) (by kernel_rfl) (by kernel_rfl)
    (by rw [MakeChecks.laidMetH_plain _ _ _ (by kernel_rfl)];exact laidMet_laidAll _ (by kernel_rfl) (by kernel_rfl))) ?_
 intro W base args ds gs before g hW hc q8 hL _;have G:∀(j:Nat) t v,Tryz.f3.params[j]?=some t→args[j]?=some v→Value.okWide Tryz.prog W .any base t v:=g
 have l8:=hW;obtain ⟨p,q,bf,hV,rfl,pq,pz⟩:=hW;have hA:DataW.TrodAll enc Tryz.prog W 0 (fun _=>true) true Tryz.f3.params.toList args.toList ds p:=bf
 rw [Tryz.params3]at hA G;obtain ⟨v0,q9,d0,pg,p0,q0,l9,rfl,rfl,h0,r0⟩:=trodAll_cons hA;obtain ⟨rfl,rfl,rfl⟩:=trodAll_nil r0;obtain rfl:args=#[v0]:=by cases args;simp_all
 obtain ⟨rfl,rfl⟩:=trodVars_none hV;obtain ⟨Tg,zg,pa,Tx,zx,b4⟩:=oZ (r:=_) (by rw [MakeChecks.laidMetH_plain _ _ _ (by kernel_rfl)]at hL;exact hL);obtain ⟨cs0,rfl,ax⟩:=dO aq (G 0 26 v0 rfl rfl);rw [xc]at ax;have k0:=h0
 have p8:∀x∈p0,x.block<W.heap.size:=by obtain ⟨m,hm⟩:=k0;exact DataW.trod_lt m _ _ _ hm
 obtain ⟨kz,mR⟩:=h0;obtain ⟨x0,E,kv,bn,cu,cO,d9,ek,gm,gq,gy,p9,lv,o8,o9,J,K,M,O,U,Z,af⟩:=dN b4 mR (by simpa [Value.cells]using ax);obtain rfl:cs0=#[.slice x0 kv.length E,.int .i64 bn,.int .i64 cu,.int .i64 cO,.int .i64 d9,.int .i64 ek,.int .i64 gm,.int .i64 gq,gy]:=MA.1 (by simpa [Value.cells]using lv);clear bf g;refine (ui b4 (bG x0 E kv _ o8 bn cu cO d9 ek gm gq J K M O U Z af gy p9 o9 Tg zg pa Tx zx)).mono fun e W' ⟨he,I⟩=>?_;subst he;exact ⟨_,V,_,_,_,[],_,[],l8,trodAll_mk1 (shut_bool On _),(trodAll_cons_mk (Below.trod laidOut (by kernel_rfl) (HH (by kernel_rfl)) k0 I p8) trodAll_mk0),V,I.frame _,fun h=>by cases h⟩
theorem j2:mapsRowed Tryz.prog=true:=by kernel_rfl
theorem j9:(Rows.proofTruthRow.inPlace==Tryz.prog.inPlace 3)=true:=by kernel_rfl
theorem j10:(Rows.proofTruthRow.unfollowed==Tryz.prog.unfollowed 3)=true:=by kernel_rfl
theorem j11:(Rows.proofTruthRow.recurses==Tryz.prog.recurses 3)=true:=by kernel_rfl
theorem j12:(Rows.proofTruthRow.named==Tryz.prog.varsNamed 3)=true:=by kernel_rfl
theorem j24:Tryz.prog.stopsHeard=true:=by kernel_rfl
theorem j25:Tryz.prog.mayEnter=true:=by kernel_rfl
theorem j26:(Rows.proofTruthRow.lifted==Tryz.prog.liftsFinal)=true:=by kernel_rfl
theorem j27:(Tryz.prog.make==some Rows.proofTruthRow.make)=true:=by kernel_rfl
theorem said:Rows.ProofTruthSaid:=
 OpenClaim.holds_of_wide 3 Tryz.f3 rfl rfl rfl rfl rfl rfl rfl ⟨rfl,rfl,rfl,rfl,rfl⟩ rfl rfl rfl rfl rfl (by kernel_rfl) func3 (XF (by kernel_rfl) laidOut j2 (by kernel_rfl) (by kernel_rfl) (by kernel_rfl) (by kernel_rfl) (by kernel_rfl) (by kernel_rfl) j9 j10 j11 j12 (by kernel_rfl) (by kernel_rfl) (by kernel_rfl) (by kernel_rfl) (by kernel_rfl) (by kernel_rfl) (by kernel_rfl) (by kernel_rfl) (by kernel_rfl) (by kernel_rfl) (by kernel_rfl) j24 j25 j26 j27 (by kernel_rfl) (by kernel_rfl) (by kernel_rfl) (by kernel_rfl))
  (HH (by kernel_rfl)) (by unfold Func.isWrapper;(rw [As (by decide+kernel)];exact ⟨rfl,rfl⟩))
  (fun os g H enc _=>lifted os g H enc)
theorem plain(f:FuncId)(fn:Func)(hf:Tryz.pinned.checked.prog.funcNamed "cachetier/cachetierlaw11.ProofTruth"=some f)(hfn:Tryz.pinned.checked.prog.funcs[f]?=some fn):
 true=Tryz.pinned.checked.prog.looks []∧∀(j:Nat) t,fn.params[j]?=some t→Tryz.pinned.checked.prog.wantsStandIn t=false:=by
 obtain rfl:f=3:=PC ((show Tryz.prog.funcNamed "cachetier/cachetierlaw11.ProofTruth"=some 3 by kernel_rfl).symm.trans hf)|>.symm;obtain rfl:fn=Tryz.f3:=(PC (func3.symm.trans hfn)).symm;refine ⟨by kernel_rfl,fun j t ht=>?_⟩;rw [Tryz.params3]at ht;have hm:t∈[26]:=by have:=Array.mem_of_getElem? ht;simp at this;first|simp [this]
 have hall:([26].all fun u=>!Tryz.prog.wantsStandIn u)=true:=by kernel_rfl
 exact (show Tryz.prog.wantsStandIn t=false by simpa using Mp.1 hall t hm)
theorem proved:Rows.ProofTruthCardSaid:=
 Claim7.holds_tied_plain_at .later [] _ _ _ _ said (fun _ h=>by cases h) (by kernel_rfl) (fun _ h=>by cases h) proofTruth_row_tie rfl ⟨rfl,rfl⟩ (by kernel_rfl) rfl plain (by kernel_rfl)
#print axioms proved
end Go.Proofs.YtlkdhannldcfbaaGreatDoor.proofTruth
