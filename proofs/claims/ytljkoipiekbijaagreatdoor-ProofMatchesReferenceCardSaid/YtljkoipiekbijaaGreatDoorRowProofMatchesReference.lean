/- The statement ProofMatchesReference (its tied card): for every input the law returns true, and the input reads as it did. Conditions: the listed package-level variables hold what the program's text lays (tied by the card). -/
import Derived.Test.YtljkoipiekbijaaGreatDoorEz
import Derived.Test.YtljkoipiekbijaaGreatDoorCards
import Derived.Test.YtljkoipiekbijaaGreatDoorTie
import Derived.Test.YtljkoipiekbijaaGreatDoorPr1
import Derived.LaidMore
import Derived.Lay
import Derived.SevenTiedAt
import Derived.Stop.Joined
import Derived.Test.YtljkoipiekbijaaGreatDoorTkJ
set_option linter.unusedVariables false
set_option linter.unusedSimpArgs false
namespace Go.Proofs.YtljkoipiekbijaaGreatDoor.proofMatchesReference
open Go.Proofs.Tryz
open Go.ChangeShapes Go.WideShapes Go.ChangeAt Go.RowKit
open Go Gw
theorem own:ownKnob Tryz.prog.godebug=none:=by kernel_rfl
theorem laidOut:laidOutB Tryz.prog=true:=by kernel_rfl
set_option maxRecDepth 100000 in
theorem lifted(os:Os)(y:os.Started)(H:Type)(enc:TypeId×Value→H):
 ReturnsInHanded {} Tryz.checked os 3 .any (fun w args=>(Rows.proofMatchesReferenceSpec.pre enc Tryz.prog Tryz.f3 Rows.proofMatchesReferenceRow.domain false w args∧laidMetH Tryz.prog Rows.proofMatchesReferenceRow.laid w)∧sizedMet enc Tryz.prog Tryz.f3 (OpenSpec.ofChange Rows.proofMatchesReferenceSpec) false w args)
  (Rows.proofMatchesReferenceSpec.post enc Tryz.prog Tryz.f3 false true false false):=by
 refine returnsInHanded_of_change_and (C:=Tryz.checked) (X:=fun w _=>laidMetH Tryz.prog Rows.proofMatchesReferenceRow.laid w) (fun _ _ _ hh h=>h.of_heap hh) own y (by kernel_rfl) func3
  (ChangeSpec.witness_shaped (enc:=enc) (C:=Tryz.checked) (os:=os) (X:=fun w _=>laidMetH Tryz.prog Rows.proofMatchesReferenceRow.laid w) false (World.laidAll Tryz.prog os Rows.proofMatchesReferenceRow.laid) #[.agg #[.slice none 0 0,.int .i64 0,.int .i64 0,.int .i64 0,.int .i64 0,.int .i64 0,.int .i64 0,.int .i64 0,.slice none 0 0]] 8 (World.laidAll_os _ _ _)
    (World.shaped_of_ZipB (by kernel_rfl) (by kernel_rfl)) (by kernel_rfl) (by kernel_rfl) (by kernel_rfl)
    (by rw [MakeChecks.laidMetH_plain _ _ _ (by kernel_rfl)];exact laidMet_laidAll _ (by kernel_rfl) (by kernel_rfl))) ?_
 intro W base args ds gs before g hW hc pq hL _;have E:∀(j:Nat) t v,Tryz.f3.params[j]?=some t→args[j]?=some v→Value.okWide Tryz.prog W .any base t v:=g
 have kz:=hW;obtain ⟨p,q,ax,hV,rfl,p9,pg⟩:=hW;have hA:DataW.TrodAll enc Tryz.prog W 0 (fun _=>true) true Tryz.f3.params.toList args.toList ds p:=ax
 rw [Tryz.params3]at hA E;obtain ⟨v0,pz,d0,p8,p0,q0,l8,rfl,rfl,h0,r0⟩:=trodAll_cons hA;obtain ⟨rfl,rfl,rfl⟩:=trodAll_nil r0;obtain rfl:args=#[v0]:=by cases args;simp_all
 obtain ⟨rfl,rfl⟩:=trodVars_none hV;obtain ⟨Tg,zg,pa,Tx,zx,b4⟩:=pV (r:=_) (by rw [MakeChecks.laidMetH_plain _ _ _ (by kernel_rfl)]at hL;exact hL);obtain ⟨cs0,rfl,af⟩:=dm dc (E 0 26 v0 rfl rfl);rw [yu]at af;have k0:=h0
 have o9:∀x∈p0,x.block<W.heap.size:=by obtain ⟨m,hm⟩:=k0;exact DataW.trod_lt m _ _ _ hm
 obtain ⟨kv,lv⟩:=h0;obtain ⟨x0,z,gy,bf,bn,cu,cO,d9,ek,gm,gq,oq,l9,mR,o8,I,J,K,M,O,U,Z⟩:=di b4 lv (by simpa [Value.cells]using af);obtain rfl:cs0=#[.slice x0 gy.length z,.int .i64 bf,.int .i64 bn,.int .i64 cu,.int .i64 cO,.int .i64 d9,.int .i64 ek,.int .i64 gm,gq]:=L5.1 (by simpa [Value.cells]using l9);clear ax g;refine (vM b4 (bG x0 z gy _ mR bf bn cu cO d9 ek gm I J K M O U Z gq oq o8 Tg zg pa Tx zx)).mono fun e W' ⟨he,G⟩=>?_;subst he;exact ⟨_,V,_,_,_,[],_,[],kz,trodAll_mk1 (shut_bool MY _),(trodAll_cons_mk (Below.trod laidOut (by kernel_rfl) (I2 (by kernel_rfl)) k0 G o9) trodAll_mk0),V,G.frame _,fun h=>by cases h⟩
theorem j2:mapsRowed Tryz.prog=true:=by kernel_rfl
theorem j9:(Rows.proofMatchesReferenceRow.inPlace==Tryz.prog.inPlace 3)=true:=by kernel_rfl
theorem j10:(Rows.proofMatchesReferenceRow.unfollowed==Tryz.prog.unfollowed 3)=true:=by kernel_rfl
theorem j11:(Rows.proofMatchesReferenceRow.recurses==Tryz.prog.recurses 3)=true:=by kernel_rfl
theorem j12:(Rows.proofMatchesReferenceRow.named==Tryz.prog.varsNamed 3)=true:=by kernel_rfl
theorem j24:Tryz.prog.stopsHeard=true:=by kernel_rfl
theorem j25:Tryz.prog.mayEnter=true:=by kernel_rfl
theorem j26:(Rows.proofMatchesReferenceRow.lifted==Tryz.prog.liftsFinal)=true:=by kernel_rfl
theorem j27:(Tryz.prog.make==some Rows.proofMatchesReferenceRow.make)=true:=by kernel_rfl
theorem said:Rows.ProofMatchesReferenceSaid:=
 OpenClaim.holds_of_wide 3 Tryz.f3 rfl rfl rfl rfl rfl rfl rfl ⟨rfl,rfl,rfl,rfl,rfl⟩ rfl rfl rfl rfl rfl (by kernel_rfl) func3 (XE (by kernel_rfl) laidOut j2 (by kernel_rfl) (by kernel_rfl) (by kernel_rfl) (by kernel_rfl) (by kernel_rfl) (by kernel_rfl) j9 j10 j11 j12 (by kernel_rfl) (by kernel_rfl) (by kernel_rfl) (by kernel_rfl) (by kernel_rfl) (by kernel_rfl) (by kernel_rfl) (by kernel_rfl) (by kernel_rfl) (by kernel_rfl) (by kernel_rfl) j24 j25 j26 j27 (by kernel_rfl) (by kernel_rfl) (by kernel_rfl) (by kernel_rfl))
  (I2 (by kernel_rfl)) (by unfold Func.isWrapper;(rw [Ax (by decide+kernel)];exact ⟨rfl,rfl⟩))
  (fun os g H enc _=>lifted os g H enc)
theorem plain(f:FuncId)(fn:Func)(hf:Tryz.pinned.checked.prog.funcNamed "cachetier/cachetierlaw11.ProofMatchesReference"=some f)(hfn:Tryz.pinned.checked.prog.funcs[f]?=some fn):
 true=Tryz.pinned.checked.prog.looks []∧∀(j:Nat) t,fn.params[j]?=some t→Tryz.pinned.checked.prog.wantsStandIn t=false:=by
 obtain rfl:f=3:=SD ((show Tryz.prog.funcNamed "cachetier/cachetierlaw11.ProofMatchesReference"=some 3 by kernel_rfl).symm.trans hf)|>.symm;obtain rfl:fn=Tryz.f3:=(SD (func3.symm.trans hfn)).symm;refine ⟨by kernel_rfl,fun j t ht=>?_⟩;rw [Tryz.params3]at ht;have hm:t∈[26]:=by have:=Array.mem_of_getElem? ht;simp at this;first|simp [this]
 have hall:([26].all fun u=>!Tryz.prog.wantsStandIn u)=true:=by kernel_rfl
 exact (show Tryz.prog.wantsStandIn t=false by simpa using PF.1 hall t hm)
theorem proved:Rows.ProofMatchesReferenceCardSaid:=
 Claim7.holds_tied_plain_at .later [] _ _ _ _ said (fun _ h=>by cases h) (by kernel_rfl) (fun _ h=>by cases h) proofMatchesReference_row_tie rfl ⟨rfl,rfl⟩ (by kernel_rfl) rfl plain (by kernel_rfl)
#print axioms proved
end Go.Proofs.YtljkoipiekbijaaGreatDoor.proofMatchesReference
