/- The statement CacheProved (its tied card): for every input the law returns true, and the input reads as it did. Conditions: the listed package-level variables hold what the program's text lays (tied by the card). -/
import Derived.Test.YtlkdhannldcfbabGreatDoorEz
import Derived.Test.YtlkdhannldcfbabGreatDoorCards
import Derived.Test.YtlkdhannldcfbabGreatDoorTie
import Derived.LaidMore
import Derived.Lay
import Derived.SevenTiedAt
import Derived.Stop.Joined
import Derived.Test.YtlkdhannldcfbabGreatDoorTq2
set_option linter.unusedVariables false
set_option linter.unusedSimpArgs false
namespace Go.Proofs.YtlkdhannldcfbabGreatDoor.cacheProved
open Go.Proofs.Tryz
open Go.ChangeShapes Go.WideShapes Go.ChangeAt Go.RowKit
open Go Gw
theorem own:ownKnob Tryz.prog.godebug=none:=by kernel_rfl
theorem laidOut:laidOutB Tryz.prog=true:=by kernel_rfl
set_option maxRecDepth 100000 in
theorem lifted(os:Os)(U:os.Started)(H:Type)(enc:TypeId×Value→H):
 ReturnsInHanded {} Tryz.checked os 3 .any (fun w args=>(Rows.cacheProvedSpec.pre enc Tryz.prog Tryz.f3 Rows.cacheProvedRow.domain false w args∧laidMetH Tryz.prog Rows.cacheProvedRow.laid w)∧sizedMet enc Tryz.prog Tryz.f3 (OpenSpec.ofChange Rows.cacheProvedSpec) false w args)
  (Rows.cacheProvedSpec.post enc Tryz.prog Tryz.f3 false true false false):=by
 refine returnsInHanded_of_change_and (C:=Tryz.checked) (X:=fun w _=>laidMetH Tryz.prog Rows.cacheProvedRow.laid w) (fun _ _ _ hh h=>h.of_heap hh) own U (by kernel_rfl) func3
  (ChangeSpec.witness_shaped (enc:=enc) (C:=Tryz.checked) (os:=os) (X:=fun w _=>laidMetH Tryz.prog Rows.cacheProvedRow.laid w) false (World.laidAll Tryz.prog os Rows.cacheProvedRow.laid) #[.slice none 0 0,.slice none 0 0,.slice none 0 0] 8 (World.laidAll_os _ _ _)
    (World.shaped_of_ZipB (by kernel_rfl) (by kernel_rfl)) (by kernel_rfl) (by kernel_rfl) (by kernel_rfl)
    (by rw [MakeChecks.laidMetH_plain _ _ _ (by kernel_rfl)];exact laidMet_laidAll _ (by kernel_rfl) (by kernel_rfl))) ?_
 intro W base args ds gs before I hW hc qh hL _;have g:∀(j:Nat) t v,Tryz.f3.params[j]?=some t→args[j]?=some v→Value.okWide Tryz.prog W .any base t v:=I
 have j5:=hW;obtain ⟨p,q,af,hV,rfl,qa,qb⟩:=hW;have hA:DataW.TrodAll enc Tryz.prog W 0 (fun _=>true) true Tryz.f3.params.toList args.toList ds p:=af
 rw [Tryz.params3]at hA g;obtain ⟨v0,qj,d0,pq,p0,q0,kv,rfl,rfl,h0,r0⟩:=trodAll_cons hA;obtain ⟨v1,vs1,d1,pz,p1,q1,rfl,rfl,rfl,h1,r1⟩:=trodAll_cons r0;obtain ⟨v2,vs2,d2,q9,p2,q2,rfl,rfl,rfl,h2,r2⟩:=trodAll_cons r1;obtain ⟨rfl,rfl,rfl⟩:=trodAll_nil r2;obtain rfl:args=#[v0,v1,v2]:=by cases args;simp_all
 obtain ⟨rfl,rfl⟩:=trodVars_none hV;obtain ⟨Tg,zg,Tp,zp,b4⟩:=A56 (r:=_) (by rw [MakeChecks.laidMetH_plain _ _ _ (by kernel_rfl)]at hL;exact hL);obtain ⟨x0,J,B,rfl⟩:=okWide_slice ey (g 0 22 v0 rfl rfl);have k0:=h0
 have p9:∀x∈p0,x.block<W.heap.size:=by obtain ⟨m,hm⟩:=k0;exact DataW.trod_lt m _ _ _ hm
 obtain ⟨gQ,l5⟩:=h0;obtain ⟨u0,g0,o8,ax⟩:=bC b4 l5;obtain ⟨cO,gm⟩:u0= .slice x0 J B∧J=g0.length:=by
  have hu:Value.slice x0 J B=u0:=by injection o8
  refine ⟨hu.symm,?_⟩;subst hu;obtain ⟨_,_,e,_⟩:=ax;injection e
 subst cO gm;obtain ⟨x1,K,G,rfl⟩:=okWide_slice q4 (g 1 23 v1 rfl rfl);have k1:=h1
 have pg:∀x∈p1,x.block<W.heap.size:=by obtain ⟨m,hm⟩:=k1;exact DataW.trod_lt m _ _ _ hm
 obtain ⟨ic,l8⟩:=h1;obtain ⟨u1,g1,o9,bn⟩:=bD b4 l8;obtain ⟨d9,gq⟩:u1= .slice x1 K G∧K=g1.length:=by
  have hu:Value.slice x1 K G=u1:=by injection o9
  refine ⟨hu.symm,?_⟩;subst hu;obtain ⟨_,_,e,_⟩:=bn;injection e
 subst d9 gq;obtain ⟨x2,O,cap2,rfl⟩:=okWide_slice DP (g 2 24 v2 rfl rfl);have k2:=h2
 have lt2:∀x∈p2,x.block<W.heap.size:=by obtain ⟨m,hm⟩:=k2;exact DataW.trod_lt m _ _ _ hm
 obtain ⟨j3,l9⟩:=h2;obtain ⟨u2,g2,p8,cu⟩:=iy b4 l9;obtain ⟨ek,gy⟩:u2= .slice x2 O cap2∧O=g2.length:=by
  have hu:Value.slice x2 O cap2=u2:=by injection p8
  refine ⟨hu.symm,?_⟩;subst hu;obtain ⟨_,_,e,_⟩:=cu;injection e
 subst ek gy;clear af I;refine (vl b4 (aY x0 B g0 _ ax x1 G g1 bn x2 cap2 g2 cu Tg zg Tp zp)).mono fun e W' ⟨he,Z⟩=>?_;subst he;exact ⟨_,V,_,_,_,[],_,[],j5,trodAll_mk1 (shut_bool N6 _),(trodAll_cons_mk (Below.trod laidOut (by kernel_rfl) (IH (by kernel_rfl)) k0 Z p9) (trodAll_cons_mk (Below.trod laidOut (by kernel_rfl) (IH (by kernel_rfl)) k1 Z pg) (trodAll_cons_mk (Below.trod laidOut (by kernel_rfl) (IH (by kernel_rfl)) k2 Z lt2) trodAll_mk0))),V,Z.frame _,fun h=>by cases h⟩
theorem j2:mapsRowed Tryz.prog=true:=by kernel_rfl
theorem j9:(Rows.cacheProvedRow.inPlace==Tryz.prog.inPlace 3)=true:=by kernel_rfl
theorem j10:(Rows.cacheProvedRow.unfollowed==Tryz.prog.unfollowed 3)=true:=by kernel_rfl
theorem j11:(Rows.cacheProvedRow.recurses==Tryz.prog.recurses 3)=true:=by kernel_rfl
theorem j12:(Rows.cacheProvedRow.named==Tryz.prog.varsNamed 3)=true:=by kernel_rfl
theorem j24:Tryz.prog.stopsHeard=true:=by kernel_rfl
theorem j25:Tryz.prog.mayEnter=true:=by kernel_rfl
theorem j26:(Rows.cacheProvedRow.lifted==Tryz.prog.liftsFinal)=true:=by kernel_rfl
theorem j27:(Tryz.prog.make==some Rows.cacheProvedRow.make)=true:=by kernel_rfl
theorem said:Rows.CacheProvedSaid:=
 OpenClaim.holds_of_wide 3 Tryz.f3 rfl rfl rfl rfl rfl rfl rfl ⟨rfl,rfl,rfl,rfl,rfl⟩ rfl rfl rfl rfl rfl (by kernel_rfl) func3 (YP (by kernel_rfl) laidOut j2 (by kernel_rfl) (by kernel_rfl) (by kernel_rfl) (by kernel_rfl) (by kernel_rfl) (by kernel_rfl) j9 j10 j11 j12 (by kernel_rfl) (by kernel_rfl) (by kernel_rfl) (by kernel_rfl) (by kernel_rfl) (by kernel_rfl) (by kernel_rfl) (by kernel_rfl) (by kernel_rfl) (by kernel_rfl) (by kernel_rfl) j24 j25 j26 j27 (by kernel_rfl) (by kernel_rfl) (by kernel_rfl) (by kernel_rfl))
  (IH (by kernel_rfl)) (by unfold Func.isWrapper;(rw [As (by decide+kernel)];exact ⟨rfl,rfl⟩))
  (fun os g H enc _=>lifted os g H enc)
theorem plain(f:FuncId)(fn:Func)(hf:Tryz.pinned.checked.prog.funcNamed "cachetier/cachetierlaw18.CacheProved"=some f)(hfn:Tryz.pinned.checked.prog.funcs[f]?=some fn):
 true=Tryz.pinned.checked.prog.looks []∧∀(j:Nat) t,fn.params[j]?=some t→Tryz.pinned.checked.prog.wantsStandIn t=false:=by
 obtain rfl:f=3:=SP ((show Tryz.prog.funcNamed "cachetier/cachetierlaw18.CacheProved"=some 3 by kernel_rfl).symm.trans hf)|>.symm;obtain rfl:fn=Tryz.f3:=(SP (func3.symm.trans hfn)).symm;refine ⟨by kernel_rfl,fun j t ht=>?_⟩;rw [Tryz.params3]at ht;have hm:t∈[22,23,24]:=by have:=Array.mem_of_getElem? ht;simp at this;(simp [this];done)
 have hall:([22,23,24].all fun u=>!Tryz.prog.wantsStandIn u)=true:=by kernel_rfl
 exact (show Tryz.prog.wantsStandIn t=false by simpa using Pr.1 hall t hm)
theorem proved:Rows.CacheProvedCardSaid:=
 Claim7.holds_tied_plain_at .later [] _ _ _ _ said (fun _ h=>by cases h) (by kernel_rfl) (fun _ h=>by cases h) cacheProved_row_tie rfl ⟨rfl,rfl⟩ (by kernel_rfl) rfl plain (by kernel_rfl)
#print axioms proved
end Go.Proofs.YtlkdhannldcfbabGreatDoor.cacheProved
