/- The statement CacheDropped (its tied card): for every input the law returns true, and the input reads as it did. Conditions: the listed package-level variables hold what the program's text lays (tied by the card). -/
import Derived.Test.YtfhjaegddfehhabGreatDoorEz
import Derived.Test.YtfhjaegddfehhabGreatDoorCards
import Derived.Test.YtfhjaegddfehhabGreatDoorTie
import Derived.LaidMore
import Derived.Lay
import Derived.SevenTiedAt
import Derived.Stop.Joined
import Derived.Test.YtfhjaegddfehhabGreatDoorTq2
set_option linter.unusedVariables false
set_option linter.unusedSimpArgs false
namespace Go.Proofs.YtfhjaegddfehhabGreatDoor.cacheDropped
open Go.Proofs.Tryz
open Go.ChangeShapes Go.WideShapes Go.ChangeAt Go.RowKit
open Go Gw
theorem own:ownKnob Tryz.prog.godebug=none:=by kernel_rfl
theorem laidOut:laidOutB Tryz.prog=true:=by kernel_rfl
set_option maxRecDepth 100000 in
theorem lifted(os:Os)(U:os.Started)(H:Type)(enc:TypeId×Value→H):
 ReturnsInHanded {} Tryz.checked os 3 .any (fun w args=>(Rows.cacheDroppedSpec.pre enc Tryz.prog Tryz.f3 Rows.cacheDroppedRow.domain false w args∧laidMetH Tryz.prog Rows.cacheDroppedRow.laid w)∧sizedMet enc Tryz.prog Tryz.f3 (OpenSpec.ofChange Rows.cacheDroppedSpec) false w args)
  (Rows.cacheDroppedSpec.post enc Tryz.prog Tryz.f3 false true false false):=by
 refine returnsInHanded_of_change_and (C:=Tryz.checked) (X:=fun w _=>laidMetH Tryz.prog Rows.cacheDroppedRow.laid w) (fun _ _ _ hh h=>h.of_heap hh) own U (by kernel_rfl) func3
  (ChangeSpec.witness_shaped (enc:=enc) (C:=Tryz.checked) (os:=os) (X:=fun w _=>laidMetH Tryz.prog Rows.cacheDroppedRow.laid w) false (World.laidAll Tryz.prog os Rows.cacheDroppedRow.laid) #[.slice none 0 0,.slice none 0 0,.int .i64 0,.int .i64 0,.bool false] 8 (World.laidAll_os _ _ _)
    (World.shaped_of_ZipB (by kernel_rfl) (by kernel_rfl)) (by kernel_rfl) (by kernel_rfl) (by kernel_rfl)
    (by rw [MakeChecks.laidMetH_plain _ _ _ (by kernel_rfl)];exact laidMet_laidAll _ (by kernel_rfl) (by kernel_rfl))) ?_
 intro W base args ds gs before I hW hc q9 hL _;have g:∀(j:Nat) t v,Tryz.f3.params[j]?=some t→args[j]?=some v→Value.okWide Tryz.prog W .any base t v:=I
 have gy:=hW;obtain ⟨p,q,af,hV,rfl,pq,pz⟩:=hW;have hA:DataW.TrodAll enc Tryz.prog W 0 (fun _=>true) true Tryz.f3.params.toList args.toList ds p:=af
 rw [Tryz.params3]at hA g;obtain ⟨v0,qa,d0,o8,p0,q0,ic,rfl,rfl,h0,r0⟩:=trodAll_cons hA;obtain ⟨v1,vs1,d1,o9,p1,q1,rfl,rfl,rfl,h1,r1⟩:=trodAll_cons r0;obtain ⟨v2,vs2,d2,p8,p2,q2,rfl,rfl,rfl,h2,r2⟩:=trodAll_cons r1;obtain ⟨v3,qb,d3,p9,p3,q3,rfl,rfl,rfl,h3,r3⟩:=trodAll_cons r2;obtain ⟨v4,qj,d4,pg,p4,q4,rfl,rfl,rfl,h4,r4⟩:=trodAll_cons r3;obtain ⟨rfl,rfl,rfl⟩:=trodAll_nil r4;obtain rfl:args=#[v0,v1,v2,v3,v4]:=by cases args;simp_all
 obtain ⟨rfl,rfl⟩:=trodVars_none hV;obtain ⟨Tg,zg,Tp,zp,b4⟩:=tF (r:=_) (by rw [MakeChecks.laidMetH_plain _ _ _ (by kernel_rfl)]at hL;exact hL);obtain ⟨x0,J,B,rfl⟩:=okWide_slice eV (g 0 22 v0 rfl rfl);have k0:=h0
 have l8:∀x∈p0,x.block<W.heap.size:=by obtain ⟨m,hm⟩:=k0;exact DataW.trod_lt m _ _ _ hm
 obtain ⟨gm,j3⟩:=h0;obtain ⟨u0,g0,kv,ax⟩:=ZV b4 j3;obtain ⟨cu,d9⟩:u0= .slice x0 J B∧J=g0.length:=by
  have hu:Value.slice x0 J B=u0:=by injection kv
  refine ⟨hu.symm,?_⟩;subst hu;obtain ⟨_,_,e,_⟩:=ax;injection e
 subst cu d9;obtain ⟨x1,O,G,rfl⟩:=okWide_slice eW (g 1 23 v1 rfl rfl);have k1:=h1
 have l9:∀x∈p1,x.block<W.heap.size:=by obtain ⟨m,hm⟩:=k1;exact DataW.trod_lt m _ _ _ hm
 obtain ⟨gq,j5⟩:=h1;obtain ⟨u1,g1,l5,bn⟩:=ZW b4 j5;obtain ⟨cO,ek⟩:u1= .slice x1 O G∧O=g1.length:=by
  have hu:Value.slice x1 O G=u1:=by injection l5
  refine ⟨hu.symm,?_⟩;subst hu;obtain ⟨_,_,e,_⟩:=bn;injection e
 subst cO ek;obtain ⟨a2,rfl,rfl,rfl,w2⟩:=open_int CM (g 2 3 v2 rfl rfl) h2;obtain ⟨a3,rfl,rfl,rfl,w3⟩:=open_int CM (g 3 3 v3 rfl rfl) h3;obtain ⟨a4,rfl,rfl,rfl⟩:=open_bool LS (g 4 4 v4 rfl rfl) h4;clear af I;refine (yF b4 (Xy x0 B g0 _ ax x1 G g1 bn a2 (bounds_i64 w2).1 (bounds_i64 w2).2 a3 (bounds_i64 w3).1 (bounds_i64 w3).2 a4 Tg zg Tp zp)).mono fun e W' ⟨he,Z⟩=>?_;subst he;exact ⟨_,V,_,_,_,[],_,[],gy,trodAll_mk1 (shut_bool LS _),(trodAll_cons_mk (Below.trod laidOut (by kernel_rfl) (I0 (by kernel_rfl)) k0 Z l8) (trodAll_cons_mk (Below.trod laidOut (by kernel_rfl) (I0 (by kernel_rfl)) k1 Z l9) (trodAll_cons_mk (shut_int CM w2) (trodAll_cons_mk (shut_int CM w3) (trodAll_cons_mk (shut_bool LS _) trodAll_mk0))))),V,Z.frame _,fun h=>by cases h⟩
theorem j2:mapsRowed Tryz.prog=true:=by kernel_rfl
theorem j9:(Rows.cacheDroppedRow.inPlace==Tryz.prog.inPlace 3)=true:=by kernel_rfl
theorem j10:(Rows.cacheDroppedRow.unfollowed==Tryz.prog.unfollowed 3)=true:=by kernel_rfl
theorem j11:(Rows.cacheDroppedRow.recurses==Tryz.prog.recurses 3)=true:=by kernel_rfl
theorem j12:(Rows.cacheDroppedRow.named==Tryz.prog.varsNamed 3)=true:=by kernel_rfl
theorem j24:Tryz.prog.stopsHeard=true:=by kernel_rfl
theorem j25:Tryz.prog.mayEnter=true:=by kernel_rfl
theorem j26:(Rows.cacheDroppedRow.lifted==Tryz.prog.liftsFinal)=true:=by kernel_rfl
theorem j27:(Tryz.prog.make==some Rows.cacheDroppedRow.make)=true:=by kernel_rfl
theorem said:Rows.CacheDroppedSaid:=
 OpenClaim.holds_of_wide 3 Tryz.f3 rfl rfl rfl rfl rfl rfl rfl ⟨rfl,rfl,rfl,rfl,rfl⟩ rfl rfl rfl rfl rfl (by kernel_rfl) func3 (Xj (by kernel_rfl) laidOut j2 (by kernel_rfl) (by kernel_rfl) (by kernel_rfl) (by kernel_rfl) (by kernel_rfl) (by kernel_rfl) j9 j10 j11 j12 (by kernel_rfl) (by kernel_rfl) (by kernel_rfl) (by kernel_rfl) (by kernel_rfl) (by kernel_rfl) (by kernel_rfl) (by kernel_rfl) (by kernel_rfl) (by kernel_rfl) (by kernel_rfl) j24 j25 j26 j27 (by kernel_rfl) (by kernel_rfl) (by kernel_rfl) (by kernel_rfl))
  (I0 (by kernel_rfl)) (by unfold Func.isWrapper;first|(rw [Ax (by decide+kernel)];kernel_rfl)|(rw [An (by decide+kernel)];exact ⟨rfl,rfl⟩))
  (fun os g H enc _=>lifted os g H enc)
theorem plain(f:FuncId)(fn:Func)(hf:Tryz.pinned.checked.prog.funcNamed "cachetier/cachetierlaw18.CacheDropped"=some f)(hfn:Tryz.pinned.checked.prog.funcs[f]?=some fn):
 true=Tryz.pinned.checked.prog.looks []∧∀(j:Nat) t,fn.params[j]?=some t→Tryz.pinned.checked.prog.wantsStandIn t=false:=by
 obtain rfl:f=3:=SO ((show Tryz.prog.funcNamed "cachetier/cachetierlaw18.CacheDropped"=some 3 by kernel_rfl).symm.trans hf)|>.symm;obtain rfl:fn=Tryz.f3:=(SO (func3.symm.trans hfn)).symm;refine ⟨by kernel_rfl,fun j t ht=>?_⟩;rw [Tryz.params3]at ht;have hm:t∈[22,23,3,4]:=by have:=Array.mem_of_getElem? ht;simp at this;first|(simp [this];done)|(rcases this with h|h|h|h|h<;>simp [h])|(rcases this with h|h|h|h<;>simp [h])|(rcases this with h|h|h<;>simp [h])|(rcases this with h|h<;>simp [h])|(rcases this with h<;>simp [h])
 have hall:([22,23,3,4].all fun u=>!Tryz.prog.wantsStandIn u)=true:=by kernel_rfl
 exact (show Tryz.prog.wantsStandIn t=false by simpa using NO.1 hall t hm)
theorem proved:Rows.CacheDroppedCardSaid:=
 Claim7.holds_tied_plain_at .later [] _ _ _ _ said (fun _ h=>by cases h) (by kernel_rfl) (fun _ h=>by cases h) cacheDropped_row_tie rfl ⟨rfl,rfl⟩ (by kernel_rfl) rfl plain (by kernel_rfl)
#print axioms proved
end Go.Proofs.YtfhjaegddfehhabGreatDoor.cacheDropped
