/- The statement CacheNoResurrection (its tied card): for every input the law returns true, and the input reads as it did. Conditions: the listed package-level variables hold what the program's text lays (tied by the card). -/
import Derived.Test.YtfhjaegddfehhaaGreatDoorEz
import Derived.Test.YtfhjaegddfehhaaGreatDoorCards
import Derived.Test.YtfhjaegddfehhaaGreatDoorTie
import Derived.Test.YtfhjaegddfehhaaGreatDoorRt5
import Derived.LaidMore
import Derived.Lay
import Derived.SevenTiedAt
import Derived.Stop.Joined
import Derived.Test.YtfhjaegddfehhaaGreatDoorTkJ
set_option linter.unusedVariables false
set_option linter.unusedSimpArgs false
namespace Go.Proofs.YtfhjaegddfehhaaGreatDoor.cacheNoResurrection
open Go.Proofs.Tryz
open Go.ChangeShapes Go.WideShapes Go.ChangeAt Go.RowKit
open Go Gw
theorem own:ownKnob Tryz.prog.godebug=none:=by kernel_rfl
theorem laidOut:laidOutB Tryz.prog=true:=by kernel_rfl
set_option maxRecDepth 100000 in
theorem lifted(os:Os)(J:os.Started)(H:Type)(enc:TypeId×Value→H):
 ReturnsInHanded {} Tryz.checked os 3 .any (fun w args=>(Rows.cacheNoResurrectionSpec.pre enc Tryz.prog Tryz.f3 Rows.cacheNoResurrectionRow.domain false w args∧laidMetH Tryz.prog Rows.cacheNoResurrectionRow.laid w)∧sizedMet enc Tryz.prog Tryz.f3 (OpenSpec.ofChange Rows.cacheNoResurrectionSpec) false w args)
  (Rows.cacheNoResurrectionSpec.post enc Tryz.prog Tryz.f3 false true false false):=by
 refine returnsInHanded_of_change_and (C:=Tryz.checked) (X:=fun w _=>laidMetH Tryz.prog Rows.cacheNoResurrectionRow.laid w) (fun _ _ _ hh h=>h.of_heap hh) own J (by kernel_rfl) func3
  (ChangeSpec.witness_shaped (enc:=enc) (C:=Tryz.checked) (os:=os) (X:=fun w _=>laidMetH Tryz.prog Rows.cacheNoResurrectionRow.laid w) false (World.laidAll Tryz.prog os Rows.cacheNoResurrectionRow.laid) #[.slice none 0 0,.agg #[.int .i64 0,.int .i64 0,.int .i64 0,.int .i64 0,.int .i64 0],.int .i64 0,.int .i64 0,.int .i64 0] 8 (World.laidAll_os _ _ _)
    (World.shaped_of_ZipB (by kernel_rfl) (by kernel_rfl)) (by kernel_rfl) (by kernel_rfl) (by kernel_rfl)
    (by rw [MakeChecks.laidMetH_plain _ _ _ (by kernel_rfl)];exact laidMet_laidAll _ (by kernel_rfl) (by kernel_rfl))) ?_
 intro W base args ds gs before G hW hc qb hL _;have g:∀(j:Nat) t v,Tryz.f3.params[j]?=some t→args[j]?=some v→Value.okWide Tryz.prog W .any base t v:=G
 have kv:=hW;obtain ⟨p,q,U,hV,rfl,q9,qa⟩:=hW;have hA:DataW.TrodAll enc Tryz.prog W 0 (fun _=>true) true Tryz.f3.params.toList args.toList ds p:=U
 rw [Tryz.params3]at hA g;obtain ⟨v0,qj,d0,p8,p0,q0,l5,rfl,rfl,h0,r0⟩:=trodAll_cons hA;obtain ⟨v1,vs1,d1,p9,p1,q1,rfl,rfl,rfl,h1,r1⟩:=trodAll_cons r0;obtain ⟨v2,vs2,d2,pg,p2,q2,rfl,rfl,rfl,h2,r2⟩:=trodAll_cons r1;obtain ⟨v3,ql,d3,pq,p3,q3,rfl,rfl,rfl,h3,r3⟩:=trodAll_cons r2;obtain ⟨v4,qo,d4,pz,p4,q4,rfl,rfl,rfl,h4,r4⟩:=trodAll_cons r3;obtain ⟨rfl,rfl,rfl⟩:=trodAll_nil r4;obtain rfl:args=#[v0,v1,v2,v3,v4]:=by cases args;simp_all
 obtain ⟨rfl,rfl⟩:=trodVars_none hV;obtain ⟨Tg,zg,Tp,zp,b4⟩:=rO (r:=_) (by rw [MakeChecks.laidMetH_plain _ _ _ (by kernel_rfl)]at hL;exact hL);obtain ⟨x0,I,B,rfl⟩:=okWide_slice dd (g 0 22 v0 rfl rfl);have k0:=h0
 have o8:∀x∈p0,x.block<W.heap.size:=by obtain ⟨m,hm⟩:=k0;exact DataW.trod_lt m _ _ _ hm
 obtain ⟨j3,l8⟩:=h0;obtain ⟨u0,g0,lw,af⟩:=Z5 b4 l8;obtain ⟨gF,ic⟩:u0= .slice x0 I B∧I=g0.length:=by
  have hu:Value.slice x0 I B=u0:=by injection lw
  refine ⟨hu.symm,?_⟩;subst hu;obtain ⟨_,_,e,_⟩:=af;injection e
 subst gF ic;obtain ⟨gB,rfl,O⟩:=eU LS (g 1 23 v1 rfl rfl);rw [u3]at O;have k1:=h1
 have o9:∀x∈p1,x.block<W.heap.size:=by obtain ⟨m,hm⟩:=k1;exact DataW.trod_lt m _ _ _ hm
 obtain ⟨j5,l9⟩:=h1;obtain ⟨ax,bg,gm,gq,gy,Z,bn,cu,cO,d9,ek⟩:=lJ l9 (by simpa [Value.cells]using O);obtain rfl:gB=#[.int .i64 ax,.int .i64 bg,.int .i64 gm,.int .i64 gq,.int .i64 gy]:=HD.1 (by simpa [Value.cells]using Z);obtain ⟨a2,rfl,rfl,rfl,w2⟩:=open_int C5 (g 2 3 v2 rfl rfl) h2;obtain ⟨a3,rfl,rfl,rfl,w3⟩:=open_int C5 (g 3 3 v3 rfl rfl) h3;obtain ⟨a4,rfl,rfl,rfl,w4⟩:=open_int C5 (g 4 3 v4 rfl rfl) h4;clear U G;refine (xK b4 (eY x0 B g0 _ af ax bg gm gq gy bn cu cO d9 ek a2 (bounds_i64 w2).1 (bounds_i64 w2).2 a3 (bounds_i64 w3).1 (bounds_i64 w3).2 a4 (bounds_i64 w4).1 (bounds_i64 w4).2 Tg zg Tp zp)).mono fun e W' ⟨he,K⟩=>?_;subst he;exact ⟨_,V,_,_,_,[],_,[],kv,trodAll_mk1 (shut_bool Lk _),(trodAll_cons_mk (Below.trod laidOut (by kernel_rfl) (Hb (by kernel_rfl)) k0 K o8) (trodAll_cons_mk (Below.trod laidOut (by kernel_rfl) (Hb (by kernel_rfl)) k1 K o9) (trodAll_cons_mk (shut_int C5 w2) (trodAll_cons_mk (shut_int C5 w3) (trodAll_cons_mk (shut_int C5 w4) trodAll_mk0))))),V,K.frame _,fun h=>by cases h⟩
theorem j2:mapsRowed Tryz.prog=true:=by kernel_rfl
theorem j9:(Rows.cacheNoResurrectionRow.inPlace==Tryz.prog.inPlace 3)=true:=by kernel_rfl
theorem j10:(Rows.cacheNoResurrectionRow.unfollowed==Tryz.prog.unfollowed 3)=true:=by kernel_rfl
theorem j11:(Rows.cacheNoResurrectionRow.recurses==Tryz.prog.recurses 3)=true:=by kernel_rfl
theorem j12:(Rows.cacheNoResurrectionRow.named==Tryz.prog.varsNamed 3)=true:=by kernel_rfl
theorem j24:Tryz.prog.stopsHeard=true:=by kernel_rfl
theorem j25:Tryz.prog.mayEnter=true:=by kernel_rfl
theorem j26:(Rows.cacheNoResurrectionRow.lifted==Tryz.prog.liftsFinal)=true:=by kernel_rfl
theorem j27:(Tryz.prog.make==some Rows.cacheNoResurrectionRow.make)=true:=by kernel_rfl
theorem said:Rows.CacheNoResurrectionSaid:=
 OpenClaim.holds_of_wide 3 Tryz.f3 rfl rfl rfl rfl rfl rfl rfl ⟨rfl,rfl,rfl,rfl,rfl⟩ rfl rfl rfl rfl rfl (by kernel_rfl) func3 (XO (by kernel_rfl) laidOut j2 (by kernel_rfl) (by kernel_rfl) (by kernel_rfl) (by kernel_rfl) (by kernel_rfl) (by kernel_rfl) j9 j10 j11 j12 (by kernel_rfl) (by kernel_rfl) (by kernel_rfl) (by kernel_rfl) (by kernel_rfl) (by kernel_rfl) (by kernel_rfl) (by kernel_rfl) (by kernel_rfl) (by kernel_rfl) (by kernel_rfl) j24 j25 j26 j27 (by kernel_rfl) (by kernel_rfl) (by kernel_rfl) (by kernel_rfl))
  (Hb (by kernel_rfl)) (by unfold Func.isWrapper;first|(rw [AM (by decide+kernel)];kernel_rfl)|(rw [AK (by decide+kernel)];exact ⟨rfl,rfl⟩))
  (fun os g H enc _=>lifted os g H enc)
theorem plain(f:FuncId)(fn:Func)(hf:Tryz.pinned.checked.prog.funcNamed "cachetier/cachetierlaw18.CacheNoResurrection"=some f)(hfn:Tryz.pinned.checked.prog.funcs[f]?=some fn):
 true=Tryz.pinned.checked.prog.looks []∧∀(j:Nat) t,fn.params[j]?=some t→Tryz.pinned.checked.prog.wantsStandIn t=false:=by
 obtain rfl:f=3:=S1 ((show Tryz.prog.funcNamed "cachetier/cachetierlaw18.CacheNoResurrection"=some 3 by kernel_rfl).symm.trans hf)|>.symm;obtain rfl:fn=Tryz.f3:=(S1 (func3.symm.trans hfn)).symm;refine ⟨by kernel_rfl,fun j t ht=>?_⟩;rw [Tryz.params3]at ht;have hm:t∈[22,23,3]:=by have:=Array.mem_of_getElem? ht;simp at this;first|(simp [this];done)|(rcases this with h|h|h|h|h<;>simp [h])|(rcases this with h|h|h|h<;>simp [h])|(rcases this with h|h|h<;>simp [h])|(rcases this with h|h<;>simp [h])|(rcases this with h<;>simp [h])
 have hall:([22,23,3].all fun u=>!Tryz.prog.wantsStandIn u)=true:=by kernel_rfl
 exact (show Tryz.prog.wantsStandIn t=false by simpa using N0.1 hall t hm)
theorem proved:Rows.CacheNoResurrectionCardSaid:=
 Claim7.holds_tied_plain_at .later [] _ _ _ _ said (fun _ h=>by cases h) (by kernel_rfl) (fun _ h=>by cases h) cacheNoResurrection_row_tie rfl ⟨rfl,rfl⟩ (by kernel_rfl) rfl plain (by kernel_rfl)
#print axioms proved
end Go.Proofs.YtfhjaegddfehhaaGreatDoor.cacheNoResurrection
