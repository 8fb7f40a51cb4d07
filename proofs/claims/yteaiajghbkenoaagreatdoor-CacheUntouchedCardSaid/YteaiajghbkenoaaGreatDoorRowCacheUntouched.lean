/- The statement CacheUntouched (its tied card): for every input the law returns true, and the input reads as it did. Conditions: the listed package-level variables hold what the program's text lays (tied by the card). -/
import Derived.Test.YteaiajghbkenoaaGreatDoorEz
import Derived.Test.YteaiajghbkenoaaGreatDoorCards
import Derived.Test.YteaiajghbkenoaaGreatDoorTie
import Derived.LaidMore
import Derived.Lay
import Derived.SevenTiedAt
import Derived.Stop.Joined
import Derived.Test.YteaiajghbkenoaaGreatDoorTq2
set_option linter.unusedVariables false
set_option linter.unusedSimpArgs false
namespace Go.Proofs.YteaiajghbkenoaaGreatDoor.cacheUntouched
open Go.Proofs.Tryz
open Go.ChangeShapes Go.WideShapes Go.ChangeAt Go.RowKit
open Go Gw
theorem own:ownKnob Tryz.prog.godebug=none:=by kernel_rfl
theorem laidOut:laidOutB Tryz.prog=true:=by kernel_rfl
set_option maxRecDepth 100000 in
theorem lifted(os:Os)(O:os.Started)(H:Type)(enc:TypeId×Value→H):
 ReturnsInHanded {} Tryz.checked os 4 .any (fun w args=>(Rows.cacheUntouchedSpec.pre enc Tryz.prog Tryz.f4 Rows.cacheUntouchedRow.domain false w args∧laidMetH Tryz.prog Rows.cacheUntouchedRow.laid w)∧sizedMet enc Tryz.prog Tryz.f4 (OpenSpec.ofChange Rows.cacheUntouchedSpec) false w args)
  (Rows.cacheUntouchedSpec.post enc Tryz.prog Tryz.f4 false true false false):=by
 refine returnsInHanded_of_change_and (C:=Tryz.checked) (X:=fun w _=>laidMetH Tryz.prog Rows.cacheUntouchedRow.laid w) (fun _ _ _ hh h=>h.of_heap hh) own O (by kernel_rfl) func4
  (ChangeSpec.witness_shaped (enc:=enc) (C:=Tryz.checked) (os:=os) (X:=fun w _=>laidMetH Tryz.prog Rows.cacheUntouchedRow.laid w) false (World.laidAll Tryz.prog os Rows.cacheUntouchedRow.laid) #[.slice none 0 0,.slice none 0 0,.int .i64 0] 8 (World.laidAll_os _ _ _)
    (World.shaped_of_ZipB (by kernel_rfl) (by kernel_rfl)) (by kernel_rfl) (by kernel_rfl) (by kernel_rfl)
    (by rw [MakeChecks.laidMetH_plain _ _ _ (by kernel_rfl)];exact laidMet_laidAll _ (by kernel_rfl) (by kernel_rfl))) ?_
 intro W base args ds gs before I hW hc p9 hL _;have g:∀(j:Nat) t v,Tryz.f4.params[j]?=some t→args[j]?=some v→Value.okWide Tryz.prog W .any base t v:=I
 have gq:=hW;obtain ⟨p,q,Z,hV,rfl,o9,p8⟩:=hW;have hA:DataW.TrodAll enc Tryz.prog W 0 (fun _=>true) true Tryz.f4.params.toList args.toList ds p:=Z
 rw [Tryz.params4]at hA g;obtain ⟨v0,pg,d0,l8,p0,q0,gy,rfl,rfl,h0,r0⟩:=trodAll_cons hA;obtain ⟨v1,vs1,d1,l9,p1,q1,rfl,rfl,rfl,h1,r1⟩:=trodAll_cons r0;obtain ⟨v2,vs2,d2,o8,p2,q2,rfl,rfl,rfl,h2,r2⟩:=trodAll_cons r1;obtain ⟨rfl,rfl,rfl⟩:=trodAll_nil r2;obtain rfl:args=#[v0,v1,v2]:=by cases args;simp_all
 obtain ⟨rfl,rfl⟩:=trodVars_none hV;obtain ⟨Tg,zg,Tp,zp,b4⟩:=qc (r:=_) (by rw [MakeChecks.laidMetH_plain _ _ _ (by kernel_rfl)]at hL;exact hL);obtain ⟨x0,J,B,rfl⟩:=okWide_slice cX (g 0 22 v0 rfl rfl);have k0:=h0
 have kv:∀x∈p0,x.block<W.heap.size:=by obtain ⟨m,hm⟩:=k0;exact DataW.trod_lt m _ _ _ hm
 obtain ⟨ek,gB⟩:=h0;obtain ⟨u0,g0,j3,af⟩:=Yx b4 gB;obtain ⟨bn,cO⟩:u0= .slice x0 J B∧J=g0.length:=by
  have hu:Value.slice x0 J B=u0:=by injection j3
  refine ⟨hu.symm,?_⟩;subst hu;obtain ⟨_,_,e,_⟩:=af;injection e
 subst bn cO;obtain ⟨x1,K,G,rfl⟩:=okWide_slice mB (g 1 60 v1 rfl rfl);have k1:=h1
 have l5:∀x∈p1,x.block<W.heap.size:=by obtain ⟨m,hm⟩:=k1;exact DataW.trod_lt m _ _ _ hm
 obtain ⟨gm,ic⟩:=h1;obtain ⟨u1,g1,j5,ax⟩:=Yy b4 ic;obtain ⟨cu,d9⟩:u1= .slice x1 K G∧K=g1.length:=by
  have hu:Value.slice x1 K G=u1:=by injection j5
  refine ⟨hu.symm,?_⟩;subst hu;obtain ⟨_,_,e,_⟩:=ax;injection e
 subst cu d9;obtain ⟨a2,rfl,rfl,rfl,w2⟩:=open_int Cp (g 2 3 v2 rfl rfl) h2;clear Z I;refine (wY b4 (Re x0 B g0 _ af x1 G g1 ax a2 (bounds_i64 w2).1 (bounds_i64 w2).2 Tg zg Tp zp)).mono fun e W' ⟨he,U⟩=>?_;subst he;exact ⟨_,V,_,_,_,[],_,[],gq,trodAll_mk1 (shut_bool NO _),(trodAll_cons_mk (Below.trod laidOut (by kernel_rfl) (HX (by kernel_rfl)) k0 U kv) (trodAll_cons_mk (Below.trod laidOut (by kernel_rfl) (HX (by kernel_rfl)) k1 U l5) (trodAll_cons_mk (shut_int Cp w2) trodAll_mk0))),V,U.frame _,fun h=>by cases h⟩
theorem j2:mapsRowed Tryz.prog=true:=by kernel_rfl
theorem j9:(Rows.cacheUntouchedRow.inPlace==Tryz.prog.inPlace 4)=true:=by kernel_rfl
theorem j10:(Rows.cacheUntouchedRow.unfollowed==Tryz.prog.unfollowed 4)=true:=by kernel_rfl
theorem j11:(Rows.cacheUntouchedRow.recurses==Tryz.prog.recurses 4)=true:=by kernel_rfl
theorem j12:(Rows.cacheUntouchedRow.named==Tryz.prog.varsNamed 4)=true:=by kernel_rfl
theorem j24:Tryz.prog.stopsHeard=true:=by kernel_rfl
theorem j25:Tryz.prog.mayEnter=true:=by kernel_rfl
theorem j26:(Rows.cacheUntouchedRow.lifted==Tryz.prog.liftsFinal)=true:=by kernel_rfl
theorem j27:(Tryz.prog.make==some Rows.cacheUntouchedRow.make)=true:=by kernel_rfl
theorem said:Rows.CacheUntouchedSaid:=
 OpenClaim.holds_of_wide 4 Tryz.f4 rfl rfl rfl rfl rfl rfl rfl ⟨rfl,rfl,rfl,rfl,rfl⟩ rfl rfl rfl rfl rfl (by kernel_rfl) func4 (XK (by kernel_rfl) laidOut j2 (by kernel_rfl) (by kernel_rfl) (by kernel_rfl) (by kernel_rfl) (by kernel_rfl) (by kernel_rfl) j9 j10 j11 j12 (by kernel_rfl) (by kernel_rfl) (by kernel_rfl) (by kernel_rfl) (by kernel_rfl) (by kernel_rfl) (by kernel_rfl) (by kernel_rfl) (by kernel_rfl) (by kernel_rfl) (by kernel_rfl) j24 j25 j26 j27 (by kernel_rfl) (by kernel_rfl) (by kernel_rfl) (by kernel_rfl))
  (HX (by kernel_rfl)) (by unfold Func.isWrapper;first|(rw [AM (by decide+kernel)];kernel_rfl)|(rw [AK (by decide+kernel)];exact ⟨rfl,rfl⟩))
  (fun os g H enc _=>lifted os g H enc)
theorem plain(f:FuncId)(fn:Func)(hf:Tryz.pinned.checked.prog.funcNamed "cachetier/cachetierlaw18.CacheUntouched"=some f)(hfn:Tryz.pinned.checked.prog.funcs[f]?=some fn):
 true=Tryz.pinned.checked.prog.looks []∧∀(j:Nat) t,fn.params[j]?=some t→Tryz.pinned.checked.prog.wantsStandIn t=false:=by
 obtain rfl:f=4:=Pc ((show Tryz.prog.funcNamed "cachetier/cachetierlaw18.CacheUntouched"=some 4 by kernel_rfl).symm.trans hf)|>.symm;obtain rfl:fn=Tryz.f4:=(Pc (func4.symm.trans hfn)).symm;refine ⟨by kernel_rfl,fun j t ht=>?_⟩;rw [Tryz.params4]at ht;have hm:t∈[22,60,3]:=by have:=Array.mem_of_getElem? ht;simp at this;first|(simp [this];done)|(rcases this with h|h|h<;>simp [h])|(rcases this with h|h<;>simp [h])|(rcases this with h<;>simp [h])
 have hall:([22,60,3].all fun u=>!Tryz.prog.wantsStandIn u)=true:=by kernel_rfl
 exact (show Tryz.prog.wantsStandIn t=false by simpa using MY.1 hall t hm)
theorem proved:Rows.CacheUntouchedCardSaid:=
 Claim7.holds_tied_plain_at .later [] _ _ _ _ said (fun _ h=>by cases h) (by kernel_rfl) (fun _ h=>by cases h) cacheUntouched_row_tie rfl ⟨rfl,rfl⟩ (by kernel_rfl) rfl plain (by kernel_rfl)
#print axioms proved
end Go.Proofs.YteaiajghbkenoaaGreatDoor.cacheUntouched
