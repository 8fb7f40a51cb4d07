/- The statement CacheWindow (its tied card): for every input the law returns true, and the input reads as it did. Conditions: the listed package-level variables hold what the program's text lays (tied by the card). -/
import Derived.Test.YteaiajghbkenoaaGreatDoorEz
import Derived.Test.YteaiajghbkenoaaGreatDoorCards
import Derived.Test.YteaiajghbkenoaaGreatDoorTie
import Derived.LaidMore
import Derived.Lay
import Derived.SevenTiedAt
import Derived.Stop.Joined
import Derived.Test.YteaiajghbkenoaaGreatDoorTkJ
set_option linter.unusedVariables false
set_option linter.unusedSimpArgs false
namespace Go.Proofs.YteaiajghbkenoaaGreatDoor.cacheWindow
open Go.Proofs.Tryz
open Go.ChangeShapes Go.WideShapes Go.ChangeAt Go.RowKit
open Go Gw
theorem own:ownKnob Tryz.prog.godebug=none:=by kernel_rfl
theorem laidOut:laidOutB Tryz.prog=true:=by kernel_rfl
set_option maxRecDepth 100000 in
theorem lifted(os:Os)(started:os.Started)(H:Type)(enc:TypeId×Value→H):
 ReturnsInHanded {} Tryz.checked os 6 .any (fun w args=>(Rows.cacheWindowSpec.pre enc Tryz.prog Tryz.f6 Rows.cacheWindowRow.domain false w args∧laidMetH Tryz.prog Rows.cacheWindowRow.laid w)∧sizedMet enc Tryz.prog Tryz.f6 (OpenSpec.ofChange Rows.cacheWindowSpec) false w args)
  (Rows.cacheWindowSpec.post enc Tryz.prog Tryz.f6 false true false false):=by
 refine returnsInHanded_of_change_and (C:=Tryz.checked) (X:=fun w _=>laidMetH Tryz.prog Rows.cacheWindowRow.laid w) (fun _ _ _ hh h=>h.of_heap hh) own started (by kernel_rfl) func6
  (ChangeSpec.witness_shaped (enc:=enc) (C:=Tryz.checked) (os:=os) (X:=fun w _=>laidMetH Tryz.prog Rows.cacheWindowRow.laid w) false (World.laidAll Tryz.prog os Rows.cacheWindowRow.laid) #[.int .i64 0,.int .i64 0] 8 (World.laidAll_os _ _ _)
    (World.shaped_of_ZipB (by kernel_rfl) (by kernel_rfl)) (by kernel_rfl) (by kernel_rfl) (by kernel_rfl)
    (by rw [MakeChecks.laidMetH_plain _ _ _ (by kernel_rfl)];exact laidMet_laidAll _ (by kernel_rfl) (by kernel_rfl))) ?_
 intro W base args ds gs before hval0 hW hc hzz hL _;have hval:∀(j:Nat) t v,Tryz.f6.params[j]?=some t→args[j]?=some v→Value.okWide Tryz.prog W .any base t v:=hval0
 have hW':=hW;obtain ⟨p,q,hA0,hV,rfl,hfz,hnd⟩:=hW;have hA:DataW.TrodAll enc Tryz.prog W 0 (fun _=>true) true Tryz.f6.params.toList args.toList ds p:=hA0
 rw [Tryz.params6]at hA hval;obtain ⟨v0,vs0,d0,ds0,p0,q0,hargs,rfl,rfl,h0,r0⟩:=trodAll_cons hA;obtain ⟨v1,vs1,d1,ds1,p1,q1,rfl,rfl,rfl,h1,r1⟩:=trodAll_cons r0;obtain ⟨rfl,rfl,rfl⟩:=trodAll_nil r1;obtain rfl:args=#[v0,v1]:=by cases args;simp_all
 obtain ⟨rfl,rfl⟩:=trodVars_none hV;obtain ⟨Tg,zg,Tp,zp,b4⟩:=nQ (r:=_) (by rw [MakeChecks.laidMetH_plain _ _ _ (by kernel_rfl)]at hL;exact hL);obtain ⟨a0,rfl,rfl,rfl,w0⟩:=open_int AV3 (hval 0 3 v0 rfl rfl) h0;obtain ⟨a1,rfl,rfl,rfl,w1⟩:=open_int AV3 (hval 1 3 v1 rfl rfl) h1;clear hA0 hval0;refine (tT b4 (Wl a0 (bounds_i64 w0).1 (bounds_i64 w0).2 a1 (bounds_i64 w1).1 (bounds_i64 w1).2 Tg zg Tp zp)).mono fun e W' ⟨he,bel⟩=>?_;subst he;exact ⟨_,V,_,_,_,[],_,[],hW',trodAll_mk1 (shut_bool AZ3 _),(trodAll_cons_mk (shut_int AV3 w0) (trodAll_cons_mk (shut_int AV3 w1) trodAll_mk0)),V,bel.frame _,fun h=>by cases h⟩
theorem j2:mapsRowed Tryz.prog=true:=by kernel_rfl
theorem j9:(Rows.cacheWindowRow.inPlace==Tryz.prog.inPlace 6)=true:=by kernel_rfl
theorem j10:(Rows.cacheWindowRow.unfollowed==Tryz.prog.unfollowed 6)=true:=by kernel_rfl
theorem j11:(Rows.cacheWindowRow.recurses==Tryz.prog.recurses 6)=true:=by kernel_rfl
theorem j12:(Rows.cacheWindowRow.named==Tryz.prog.varsNamed 6)=true:=by kernel_rfl
theorem j24:Tryz.prog.stopsHeard=true:=by kernel_rfl
theorem j25:Tryz.prog.mayEnter=true:=by kernel_rfl
theorem j26:(Rows.cacheWindowRow.lifted==Tryz.prog.liftsFinal)=true:=by kernel_rfl
theorem j27:(Tryz.prog.make==some Rows.cacheWindowRow.make)=true:=by kernel_rfl
theorem said:Rows.CacheWindowSaid:=
 OpenClaim.holds_of_wide 6 Tryz.f6 rfl rfl rfl rfl rfl rfl rfl ⟨rfl,rfl,rfl,rfl,rfl⟩ rfl rfl rfl rfl rfl (by kernel_rfl) func6 (Vt (by kernel_rfl) laidOut j2 (by kernel_rfl) (by kernel_rfl) (by kernel_rfl) (by kernel_rfl) (by kernel_rfl) (by kernel_rfl) j9 j10 j11 j12 (by kernel_rfl) (by kernel_rfl) (by kernel_rfl) (by kernel_rfl) (by kernel_rfl) (by kernel_rfl) (by kernel_rfl) (by kernel_rfl) (by kernel_rfl) (by kernel_rfl) (by kernel_rfl) j24 j25 j26 j27 (by kernel_rfl) (by kernel_rfl) (by kernel_rfl) (by kernel_rfl))
  (An1 (by kernel_rfl)) (by unfold Func.isWrapper;first|(rw [Am7 (by decide+kernel)];kernel_rfl)|(rw [Am6 (by decide+kernel)];exact ⟨rfl,rfl⟩))
  (fun os started H enc _=>lifted os started H enc)
theorem plain(f:FuncId)(fn:Func)(hf:Tryz.pinned.checked.prog.funcNamed "cachetier/cachetierlaw18.CacheWindow"=some f)(hfn:Tryz.pinned.checked.prog.funcs[f]?=some fn):
 true=Tryz.pinned.checked.prog.looks []∧∀(j:Nat) t,fn.params[j]?=some t→Tryz.pinned.checked.prog.wantsStandIn t=false:=by
 obtain rfl:f=6:=AG5 ((show Tryz.prog.funcNamed "cachetier/cachetierlaw18.CacheWindow"=some 6 by kernel_rfl).symm.trans hf)|>.symm;obtain rfl:fn=Tryz.f6:=(AG5 (func6.symm.trans hfn)).symm;refine ⟨by kernel_rfl,fun j t ht=>?_⟩;rw [Tryz.params6]at ht;have hm:t∈[3]:=by have:=Array.mem_of_getElem? ht;simp at this;first|(simp [this];done)|(rcases this with h|h<;>simp [h])|(rcases this with h<;>simp [h])
 have hall:([3].all fun u=>!Tryz.prog.wantsStandIn u)=true:=by kernel_rfl
 exact (show Tryz.prog.wantsStandIn t=false by simpa using AE0.1 hall t hm)
theorem proved:Rows.CacheWindowCardSaid:=
 Claim7.holds_tied_plain_at .later [] _ _ _ _ said (fun _ h=>by cases h) (by kernel_rfl) (fun _ h=>by cases h) cacheWindow_row_tie rfl ⟨rfl,rfl⟩ (by kernel_rfl) rfl plain (by kernel_rfl)
#print axioms proved
end Go.Proofs.YteaiajghbkenoaaGreatDoor.cacheWindow
