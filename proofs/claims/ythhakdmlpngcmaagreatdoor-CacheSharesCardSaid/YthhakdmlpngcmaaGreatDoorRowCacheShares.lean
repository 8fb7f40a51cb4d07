/- The statement CacheShares (its tied card): for every input the law returns true, and the input reads as it did. Conditions: the listed package-level variables hold what the program's text lays (tied by the card). -/
import Derived.Test.YthhakdmlpngcmaaGreatDoorEz
import Derived.Test.YthhakdmlpngcmaaGreatDoorCards
import Derived.Test.YthhakdmlpngcmaaGreatDoorTie
import Derived.LaidMore
import Derived.Lay
import Derived.SevenTiedAt
import Derived.Stop.Joined
import Derived.Test.YthhakdmlpngcmaaGreatDoorTq3
set_option linter.unusedVariables false
set_option linter.unusedSimpArgs false
namespace Go.Proofs.YthhakdmlpngcmaaGreatDoor.cacheShares
open Go.Proofs.Tryz
open Go.ChangeShapes Go.WideShapes Go.ChangeAt Go.RowKit
open Go Gw
theorem own:ownKnob Tryz.prog.godebug=none:=by kernel_rfl
theorem laidOut:laidOutB Tryz.prog=true:=by kernel_rfl
set_option maxRecDepth 100000 in
theorem lifted(os:Os)(K:os.Started)(H:Type)(enc:TypeId×Value→H):
 ReturnsInHanded {} Tryz.checked os 3 .any (fun w args=>(Rows.cacheSharesSpec.pre enc Tryz.prog Tryz.f3 Rows.cacheSharesRow.domain false w args∧laidMetH Tryz.prog Rows.cacheSharesRow.laid w)∧sizedMet enc Tryz.prog Tryz.f3 (OpenSpec.ofChange Rows.cacheSharesSpec) false w args)
  (Rows.cacheSharesSpec.post enc Tryz.prog Tryz.f3 false true false false):=by
 refine returnsInHanded_of_change_and (C:=Tryz.checked) (X:=fun w _=>laidMetH Tryz.prog Rows.cacheSharesRow.laid w) (fun _ _ _ hh h=>h.of_heap hh) own K (by kernel_rfl) func3
  (ChangeSpec.witness_shaped (enc:=enc) (C:=Tryz.checked) (os:=os) (X:=fun w _=>laidMetH Tryz.prog Rows.cacheSharesRow.laid w) false (World.laidAll Tryz.prog os Rows.cacheSharesRow.laid) #[.slice none 0 0,.int .i64 0,.slice none 0 0] 8 (World.laidAll_os _ _ _)
    (World.shaped_of_ZipB (by kernel_rfl) (by kernel_rfl)) (by kernel_rfl) (by kernel_rfl) (by kernel_rfl)
    (by rw [MakeChecks.laidMetH_plain _ _ _ (by kernel_rfl)];exact laidMet_laidAll _ (by kernel_rfl) (by kernel_rfl))) ?_
 intro W base args ds gs before G hW hc o9 hL _;have g:∀(j:Nat) t v,Tryz.f3.params[j]?=some t→args[j]?=some v→Value.okWide Tryz.prog W .any base t v:=G
 have ek:=hW;obtain ⟨p,q,U,hV,rfl,l9,o8⟩:=hW;have hA:DataW.TrodAll enc Tryz.prog W 0 (fun _=>true) true Tryz.f3.params.toList args.toList ds p:=U
 rw [Tryz.params3]at hA g;obtain ⟨v0,p8,d0,kv,p0,q0,gm,rfl,rfl,h0,r0⟩:=trodAll_cons hA;obtain ⟨v1,vs1,d1,l5,p1,q1,rfl,rfl,rfl,h1,r1⟩:=trodAll_cons r0;obtain ⟨v2,vs2,d2,l8,p2,q2,rfl,rfl,rfl,h2,r2⟩:=trodAll_cons r1;obtain ⟨rfl,rfl,rfl⟩:=trodAll_nil r2;obtain rfl:args=#[v0,v1,v2]:=by cases args;simp_all
 obtain ⟨rfl,rfl⟩:=trodVars_none hV;obtain ⟨Tg,zg,Tp,zp,b4⟩:=sU (r:=_) (by rw [MakeChecks.laidMetH_plain _ _ _ (by kernel_rfl)]at hL;exact hL);obtain ⟨x0,I,B,rfl⟩:=okWide_slice eA (g 0 22 v0 rfl rfl);have k0:=h0
 have j5:∀x∈p0,x.block<W.heap.size:=by obtain ⟨m,hm⟩:=k0;exact DataW.trod_lt m _ _ _ hm
 obtain ⟨d9,gq⟩:=h0;obtain ⟨u0,g0,ic,Z⟩:=Z8 b4 gq;obtain ⟨ax,cu⟩:u0= .slice x0 I B∧I=g0.length:=by
  have hu:Value.slice x0 I B=u0:=by injection ic
  refine ⟨hu.symm,?_⟩;subst hu;obtain ⟨_,_,e,_⟩:=Z;injection e
 subst ax cu;obtain ⟨a1,rfl,rfl,rfl,w1⟩:=open_int D4 (g 1 3 v1 rfl rfl) h1;obtain ⟨x2,J,cap2,rfl⟩:=okWide_slice kB (g 2 23 v2 rfl rfl);have k2:=h2
 have lt2:∀x∈p2,x.block<W.heap.size:=by obtain ⟨m,hm⟩:=k2;exact DataW.trod_lt m _ _ _ hm
 obtain ⟨dn,gy⟩:=h2;obtain ⟨u2,g2,j3,af⟩:=fA b4 gy;obtain ⟨bn,cO⟩:u2= .slice x2 J cap2∧J=g2.length:=by
  have hu:Value.slice x2 J cap2=u2:=by injection j3
  refine ⟨hu.symm,?_⟩;subst hu;obtain ⟨_,_,e,_⟩:=af;injection e
 subst bn cO;clear U G;refine (xk b4 (YH x0 B g0 _ Z a1 (bounds_i64 w1).1 (bounds_i64 w1).2 x2 cap2 g2 af Tg zg Tp zp)).mono fun e W' ⟨he,O⟩=>?_;subst he;exact ⟨_,V,_,_,_,[],_,[],ek,trodAll_mk1 (shut_bool N6 _),(trodAll_cons_mk (Below.trod laidOut (by kernel_rfl) (HO (by kernel_rfl)) k0 O j5) (trodAll_cons_mk (shut_int D4 w1) (trodAll_cons_mk (Below.trod laidOut (by kernel_rfl) (HO (by kernel_rfl)) k2 O lt2) trodAll_mk0))),V,O.frame _,fun h=>by cases h⟩
theorem j2:mapsRowed Tryz.prog=true:=by kernel_rfl
theorem j9:(Rows.cacheSharesRow.inPlace==Tryz.prog.inPlace 3)=true:=by kernel_rfl
theorem j10:(Rows.cacheSharesRow.unfollowed==Tryz.prog.unfollowed 3)=true:=by kernel_rfl
theorem j11:(Rows.cacheSharesRow.recurses==Tryz.prog.recurses 3)=true:=by kernel_rfl
theorem j12:(Rows.cacheSharesRow.named==Tryz.prog.varsNamed 3)=true:=by kernel_rfl
theorem j24:Tryz.prog.stopsHeard=true:=by kernel_rfl
theorem j25:Tryz.prog.mayEnter=true:=by kernel_rfl
theorem j26:(Rows.cacheSharesRow.lifted==Tryz.prog.liftsFinal)=true:=by kernel_rfl
theorem j27:(Tryz.prog.make==some Rows.cacheSharesRow.make)=true:=by kernel_rfl
theorem said:Rows.CacheSharesSaid:=
 OpenClaim.holds_of_wide 3 Tryz.f3 rfl rfl rfl rfl rfl rfl rfl ⟨rfl,rfl,rfl,rfl,rfl⟩ rfl rfl rfl rfl rfl (by kernel_rfl) func3 (XN (by kernel_rfl) laidOut j2 (by kernel_rfl) (by kernel_rfl) (by kernel_rfl) (by kernel_rfl) (by kernel_rfl) (by kernel_rfl) j9 j10 j11 j12 (by kernel_rfl) (by kernel_rfl) (by kernel_rfl) (by kernel_rfl) (by kernel_rfl) (by kernel_rfl) (by kernel_rfl) (by kernel_rfl) (by kernel_rfl) (by kernel_rfl) (by kernel_rfl) j24 j25 j26 j27 (by kernel_rfl) (by kernel_rfl) (by kernel_rfl) (by kernel_rfl))
  (HO (by kernel_rfl)) (by unfold Func.isWrapper;first|(rw [Ax (by decide+kernel)];kernel_rfl)|(rw [As (by decide+kernel)];exact ⟨rfl,rfl⟩))
  (fun os g H enc _=>lifted os g H enc)
theorem plain(f:FuncId)(fn:Func)(hf:Tryz.pinned.checked.prog.funcNamed "cachetier/cachetierlaw18.CacheShares"=some f)(hfn:Tryz.pinned.checked.prog.funcs[f]?=some fn):
 true=Tryz.pinned.checked.prog.looks []∧∀(j:Nat) t,fn.params[j]?=some t→Tryz.pinned.checked.prog.wantsStandIn t=false:=by
 obtain rfl:f=3:=S2 ((show Tryz.prog.funcNamed "cachetier/cachetierlaw18.CacheShares"=some 3 by kernel_rfl).symm.trans hf)|>.symm;obtain rfl:fn=Tryz.f3:=(S2 (func3.symm.trans hfn)).symm;refine ⟨by kernel_rfl,fun j t ht=>?_⟩;rw [Tryz.params3]at ht;have hm:t∈[22,3,23]:=by have:=Array.mem_of_getElem? ht;simp at this;first|(simp [this];done)|(rcases this with h|h|h<;>simp [h])|(rcases this with h|h<;>simp [h])|(rcases this with h<;>simp [h])
 have hall:([22,3,23].all fun u=>!Tryz.prog.wantsStandIn u)=true:=by kernel_rfl
 exact (show Tryz.prog.wantsStandIn t=false by simpa using Lq.1 hall t hm)
theorem proved:Rows.CacheSharesCardSaid:=
 Claim7.holds_tied_plain_at .later [] _ _ _ _ said (fun _ h=>by cases h) (by kernel_rfl) (fun _ h=>by cases h) cacheShares_row_tie rfl ⟨rfl,rfl⟩ (by kernel_rfl) rfl plain (by kernel_rfl)
#print axioms proved
end Go.Proofs.YthhakdmlpngcmaaGreatDoor.cacheShares
