/- The statement CacheTruth (its tied card): for every input the law returns true, and the input reads as it did. Conditions: the listed package-level variables hold what the program's text lays (tied by the card). -/
import Derived.Test.YthhakdmlpngcmaaGreatDoorEz
import Derived.Test.YthhakdmlpngcmaaGreatDoorCards
import Derived.Test.YthhakdmlpngcmaaGreatDoorTie
import Derived.LaidMore
import Derived.Lay
import Derived.SevenTiedAt
import Derived.Stop.Joined
import Derived.Test.YthhakdmlpngcmaaGreatDoorTq3
set_option linter.unusedVariables false
set_option linter.unusedSimpArgs false
namespace Go.Proofs.YthhakdmlpngcmaaGreatDoor.cacheTruth
open Go.Proofs.Tryz
open Go.ChangeShapes Go.WideShapes Go.ChangeAt Go.RowKit
open Go Gw
theorem own:ownKnob Tryz.prog.godebug=none:=by kernel_rfl
theorem laidOut:laidOutB Tryz.prog=true:=by kernel_rfl
set_option maxRecDepth 100000 in
theorem lifted(os:Os)(O:os.Started)(H:Type)(enc:TypeId×Value→H):
 ReturnsInHanded {} Tryz.checked os 4 .any (fun w args=>(Rows.cacheTruthSpec.pre enc Tryz.prog Tryz.f4 Rows.cacheTruthRow.domain false w args∧laidMetH Tryz.prog Rows.cacheTruthRow.laid w)∧sizedMet enc Tryz.prog Tryz.f4 (OpenSpec.ofChange Rows.cacheTruthSpec) false w args)
  (Rows.cacheTruthSpec.post enc Tryz.prog Tryz.f4 false true false false):=by
 refine returnsInHanded_of_change_and (C:=Tryz.checked) (X:=fun w _=>laidMetH Tryz.prog Rows.cacheTruthRow.laid w) (fun _ _ _ hh h=>h.of_heap hh) own O (by kernel_rfl) func4
  (ChangeSpec.witness_shaped (enc:=enc) (C:=Tryz.checked) (os:=os) (X:=fun w _=>laidMetH Tryz.prog Rows.cacheTruthRow.laid w) false (World.laidAll Tryz.prog os Rows.cacheTruthRow.laid) #[.slice none 0 0,.slice none 0 0] 8 (World.laidAll_os _ _ _)
    (World.shaped_of_ZipB (by kernel_rfl) (by kernel_rfl)) (by kernel_rfl) (by kernel_rfl) (by kernel_rfl)
    (by rw [MakeChecks.laidMetH_plain _ _ _ (by kernel_rfl)];exact laidMet_laidAll _ (by kernel_rfl) (by kernel_rfl))) ?_
 intro W base args ds gs before I hW hc p8 hL _;have G:∀(j:Nat) t v,Tryz.f4.params[j]?=some t→args[j]?=some v→Value.okWide Tryz.prog W .any base t v:=I
 have gm:=hW;obtain ⟨p,q,Z,hV,rfl,o8,o9⟩:=hW;have hA:DataW.TrodAll enc Tryz.prog W 0 (fun _=>true) true Tryz.f4.params.toList args.toList ds p:=Z
 rw [Tryz.params4]at hA G;obtain ⟨v0,p9,d0,l8,p0,q0,gq,rfl,rfl,h0,r0⟩:=trodAll_cons hA;obtain ⟨v1,vs1,d1,l9,p1,q1,rfl,rfl,rfl,h1,r1⟩:=trodAll_cons r0;obtain ⟨rfl,rfl,rfl⟩:=trodAll_nil r1;obtain rfl:args=#[v0,v1]:=by cases args;simp_all
 obtain ⟨rfl,rfl⟩:=trodVars_none hV;obtain ⟨Tg,zg,Tp,zp,b4⟩:=tu (r:=_) (by rw [MakeChecks.laidMetH_plain _ _ _ (by kernel_rfl)]at hL;exact hL);obtain ⟨x0,J,g,rfl⟩:=okWide_slice eN (G 0 22 v0 rfl rfl);have k0:=h0
 have kv:∀x∈p0,x.block<W.heap.size:=by obtain ⟨m,hm⟩:=k0;exact DataW.trod_lt m _ _ _ hm
 obtain ⟨dn,gy⟩:=h0;obtain ⟨u0,g0,j3,af⟩:=ZJ b4 gy;obtain ⟨bn,cO⟩:u0= .slice x0 J g∧J=g0.length:=by
  have hu:Value.slice x0 J g=u0:=by injection j3
  refine ⟨hu.symm,?_⟩;subst hu;obtain ⟨_,_,e,_⟩:=af;injection e
 subst bn cO;obtain ⟨x1,K,B,rfl⟩:=okWide_slice lP (G 1 23 v1 rfl rfl);have k1:=h1
 have l5:∀x∈p1,x.block<W.heap.size:=by obtain ⟨m,hm⟩:=k1;exact DataW.trod_lt m _ _ _ hm
 obtain ⟨ek,ic⟩:=h1;obtain ⟨u1,g1,j5,ax⟩:=fV b4 ic;obtain ⟨cu,d9⟩:u1= .slice x1 K B∧K=g1.length:=by
  have hu:Value.slice x1 K B=u1:=by injection j5
  refine ⟨hu.symm,?_⟩;subst hu;obtain ⟨_,_,e,_⟩:=ax;injection e
 subst cu d9;clear Z I;refine (yI b4 (dO x0 g g0 _ af x1 B g1 ax Tg zg Tp zp)).mono fun e W' ⟨he,U⟩=>?_;subst he;exact ⟨_,V,_,_,_,[],_,[],gm,trodAll_mk1 (shut_bool Mn _),(trodAll_cons_mk (Below.trod laidOut (by kernel_rfl) (HN (by kernel_rfl)) k0 U kv) (trodAll_cons_mk (Below.trod laidOut (by kernel_rfl) (HN (by kernel_rfl)) k1 U l5) trodAll_mk0)),V,U.frame _,fun h=>by cases h⟩
theorem j2:mapsRowed Tryz.prog=true:=by kernel_rfl
theorem j9:(Rows.cacheTruthRow.inPlace==Tryz.prog.inPlace 4)=true:=by kernel_rfl
theorem j10:(Rows.cacheTruthRow.unfollowed==Tryz.prog.unfollowed 4)=true:=by kernel_rfl
theorem j11:(Rows.cacheTruthRow.recurses==Tryz.prog.recurses 4)=true:=by kernel_rfl
theorem j12:(Rows.cacheTruthRow.named==Tryz.prog.varsNamed 4)=true:=by kernel_rfl
theorem j24:Tryz.prog.stopsHeard=true:=by kernel_rfl
theorem j25:Tryz.prog.mayEnter=true:=by kernel_rfl
theorem j26:(Rows.cacheTruthRow.lifted==Tryz.prog.liftsFinal)=true:=by kernel_rfl
theorem j27:(Tryz.prog.make==some Rows.cacheTruthRow.make)=true:=by kernel_rfl
theorem said:Rows.CacheTruthSaid:=
 OpenClaim.holds_of_wide 4 Tryz.f4 rfl rfl rfl rfl rfl rfl rfl ⟨rfl,rfl,rfl,rfl,rfl⟩ rfl rfl rfl rfl rfl (by kernel_rfl) func4 (Xb (by kernel_rfl) laidOut j2 (by kernel_rfl) (by kernel_rfl) (by kernel_rfl) (by kernel_rfl) (by kernel_rfl) (by kernel_rfl) j9 j10 j11 j12 (by kernel_rfl) (by kernel_rfl) (by kernel_rfl) (by kernel_rfl) (by kernel_rfl) (by kernel_rfl) (by kernel_rfl) (by kernel_rfl) (by kernel_rfl) (by kernel_rfl) (by kernel_rfl) j24 j25 j26 j27 (by kernel_rfl) (by kernel_rfl) (by kernel_rfl) (by kernel_rfl))
  (HN (by kernel_rfl)) (by unfold Func.isWrapper;first|(rw [As (by decide+kernel)];kernel_rfl)|(rw [An (by decide+kernel)];exact ⟨rfl,rfl⟩))
  (fun os g H enc _=>lifted os g H enc)
theorem plain(f:FuncId)(fn:Func)(hf:Tryz.pinned.checked.prog.funcNamed "cachetier/cachetierlaw18.CacheTruth"=some f)(hfn:Tryz.pinned.checked.prog.funcs[f]?=some fn):
 true=Tryz.pinned.checked.prog.looks []∧∀(j:Nat) t,fn.params[j]?=some t→Tryz.pinned.checked.prog.wantsStandIn t=false:=by
 obtain rfl:f=4:=S5 ((show Tryz.prog.funcNamed "cachetier/cachetierlaw18.CacheTruth"=some 4 by kernel_rfl).symm.trans hf)|>.symm;obtain rfl:fn=Tryz.f4:=(S5 (func4.symm.trans hfn)).symm;refine ⟨by kernel_rfl,fun j t ht=>?_⟩;rw [Tryz.params4]at ht;have hm:t∈[22,23]:=by have:=Array.mem_of_getElem? ht;simp at this;first|(simp [this];done)|(rcases this with h|h<;>simp [h])|(rcases this with h<;>simp [h])
 have hall:([22,23].all fun u=>!Tryz.prog.wantsStandIn u)=true:=by kernel_rfl
 exact (show Tryz.prog.wantsStandIn t=false by simpa using MT.1 hall t hm)
theorem proved:Rows.CacheTruthCardSaid:=
 Claim7.holds_tied_plain_at .later [] _ _ _ _ said (fun _ h=>by cases h) (by kernel_rfl) (fun _ h=>by cases h) cacheTruth_row_tie rfl ⟨rfl,rfl⟩ (by kernel_rfl) rfl plain (by kernel_rfl)
#print axioms proved
end Go.Proofs.YthhakdmlpngcmaaGreatDoor.cacheTruth
