/- The statement CacheOwns (its tied card): for every input the law returns true, and the input reads as it did. Conditions: the listed package-level variables hold what the program's text lays (tied by the card). -/
import Derived.Test.YtelliknjeemfoaaGreatDoorEz
import Derived.Test.YtelliknjeemfoaaGreatDoorCards
import Derived.Test.YtelliknjeemfoaaGreatDoorTie
import Derived.Test.YtelliknjeemfoaaGreatDoorRt5
import Derived.LaidMore
import Derived.Lay
import Derived.SevenTiedAt
import Derived.Stop.Joined
import Derived.Test.YtelliknjeemfoaaGreatDoorCo6
set_option linter.unusedVariables false
set_option linter.unusedSimpArgs false
namespace Go.Proofs.YtelliknjeemfoaaGreatDoor.cacheOwns
open Go.Proofs.Tryz
open Go.ChangeShapes Go.WideShapes Go.ChangeAt Go.RowKit
open Go Gw
theorem own:ownKnob Tryz.prog.godebug=none:=by kernel_rfl
theorem laidOut:laidOutB Tryz.prog=true:=by kernel_rfl
set_option maxRecDepth 100000 in
theorem lifted(os:Os)(J:os.Started)(H:Type)(enc:TypeId×Value→H):
 ReturnsInHanded {} Tryz.checked os 3 .any (fun w args=>(Rows.cacheOwnsSpec.pre enc Tryz.prog Tryz.f3 Rows.cacheOwnsRow.domain false w args∧laidMetH Tryz.prog Rows.cacheOwnsRow.laid w)∧sizedMet enc Tryz.prog Tryz.f3 (OpenSpec.ofChange Rows.cacheOwnsSpec) false w args)
  (Rows.cacheOwnsSpec.post enc Tryz.prog Tryz.f3 false true false false):=by
 refine returnsInHanded_of_change_and (C:=Tryz.checked) (X:=fun w _=>laidMetH Tryz.prog Rows.cacheOwnsRow.laid w) (fun _ _ _ hh h=>h.of_heap hh) own J (by kernel_rfl) func3
  (ChangeSpec.witness_shaped (enc:=enc) (C:=Tryz.checked) (os:=os) (X:=fun w _=>laidMetH Tryz.prog Rows.cacheOwnsRow.laid w) false (World.laidAll Tryz.prog os Rows.cacheOwnsRow.laid) #[.slice none 0 0,.agg #[.int .i64 0,.int .i64 0,.int .i64 0,.int .i64 0,.int .i64 0],.int .i64 0,.agg #[.int .i64 0,.slice none 0 0]] 8 (World.laidAll_os _ _ _)
    (World.shaped_of_ZipB (by kernel_rfl) (by kernel_rfl)) (by kernel_rfl) (by kernel_rfl) (by kernel_rfl)
    (by rw [MakeChecks.laidMetH_plain _ _ _ (by kernel_rfl)];exact laidMet_laidAll _ (by kernel_rfl) (by kernel_rfl))) ?_
 intro W base args ds gs before G hW hc sO hL _;have g:∀(j:Nat) t v,Tryz.f3.params[j]?=some t→args[j]?=some v→Value.okWide Tryz.prog W .any base t v:=G
 have pq:=hW;obtain ⟨p,q,ax,hV,rfl,sJ,sM⟩:=hW;have hA:DataW.TrodAll enc Tryz.prog W 0 (fun _=>true) true Tryz.f3.params.toList args.toList ds p:=ax
 rw [Tryz.params3]at hA g;obtain ⟨v0,ve,d0,r9,p0,q0,pz,rfl,rfl,h0,r0⟩:=trodAll_cons hA;obtain ⟨v1,vs1,d1,sj,p1,q1,rfl,rfl,rfl,h1,r1⟩:=trodAll_cons r0;obtain ⟨v2,vs2,d2,sw,p2,q2,rfl,rfl,rfl,h2,r2⟩:=trodAll_cons r1;obtain ⟨v3,vo,d3,sD,p3,q3,rfl,rfl,rfl,h3,r3⟩:=trodAll_cons r2;obtain ⟨rfl,rfl,rfl⟩:=trodAll_nil r3;obtain rfl:args=#[v0,v1,v2,v3]:=by cases args;simp_all
 obtain ⟨rfl,rfl⟩:=trodVars_none hV;obtain ⟨Tg,zg,Tp,zp,b4⟩:=rW (r:=_) (by rw [MakeChecks.laidMetH_plain _ _ _ (by kernel_rfl)]at hL;exact hL);obtain ⟨x0,I,B,rfl⟩:=okWide_slice ew (g 0 22 v0 rfl rfl);have k0:=h0
 have qx:∀x∈p0,x.block<W.heap.size:=by obtain ⟨m,hm⟩:=k0;exact DataW.trod_lt m _ _ _ hm
 obtain ⟨p8,qb⟩:=h0;obtain ⟨u0,g0,qw,cu⟩:=Yo b4 qb;obtain ⟨o9,ow⟩:u0= .slice x0 I B∧I=g0.length:=by
  have hu:Value.slice x0 I B=u0:=by injection qw
  refine ⟨hu.symm,?_⟩;subst hu;obtain ⟨_,_,e,_⟩:=cu;injection e
 subst o9 ow;obtain ⟨l9,rfl,Z⟩:=eH bm (g 1 23 v1 rfl rfl);rw [yU]at Z;have k1:=h1
 have qy:∀x∈p1,x.block<W.heap.size:=by obtain ⟨m,hm⟩:=k1;exact DataW.trod_lt m _ _ _ hm
 obtain ⟨p9,qj⟩:=h1;obtain ⟨cO,d9,j3,j5,kv,bn,ek,gm,gq,gy,ic⟩:=lG qj (by simpa [Value.cells]using Z);obtain rfl:l9=#[.int .i64 cO,.int .i64 d9,.int .i64 j3,.int .i64 j5,.int .i64 kv]:=HW.1 (by simpa [Value.cells]using bn);obtain ⟨a2,rfl,rfl,rfl,w2⟩:=open_int D3 (g 2 3 v2 rfl rfl) h2;obtain ⟨o8,rfl,af⟩:=eG GF (g 3 26 v3 rfl rfl);rw [yT]at af;have k3:=h3
 have qz:∀x∈p3,x.block<W.heap.size:=by obtain ⟨m,hm⟩:=k3;exact DataW.trod_lt m _ _ _ hm
 obtain ⟨pg,ql⟩:=h3;obtain ⟨l5,x3,O,l8,qa,U,q9,qo⟩:=lF b4 ql (by simpa [Value.cells]using af);obtain rfl:o8=#[.int .i64 l5,.slice x3 l8.length O]:=HW.1 (by simpa [Value.cells]using qa);clear ax G;refine (xX b4 (ky x0 B g0 _ cu cO d9 j3 j5 kv ek gm gq gy ic a2 (bounds_i64 w2).1 (bounds_i64 w2).2 l5 U.1 U.2 x3 O l8 q9 qo Tg zg Tp zp)).mono fun e W' ⟨he,K⟩=>?_;subst he;exact ⟨_,V,_,_,_,[],_,[],pq,trodAll_mk1 (shut_bool Mn _),(trodAll_cons_mk (Below.trod laidOut (by kernel_rfl) (IF (by kernel_rfl)) k0 K qx) (trodAll_cons_mk (Below.trod laidOut (by kernel_rfl) (IF (by kernel_rfl)) k1 K qy) (trodAll_cons_mk (shut_int D3 w2) (trodAll_cons_mk (Below.trod laidOut (by kernel_rfl) (IF (by kernel_rfl)) k3 K qz) trodAll_mk0)))),V,K.frame _,fun h=>by cases h⟩
theorem j2:mapsRowed Tryz.prog=true:=by kernel_rfl
theorem j9:(Rows.cacheOwnsRow.inPlace==Tryz.prog.inPlace 3)=true:=by kernel_rfl
theorem j10:(Rows.cacheOwnsRow.unfollowed==Tryz.prog.unfollowed 3)=true:=by kernel_rfl
theorem j11:(Rows.cacheOwnsRow.recurses==Tryz.prog.recurses 3)=true:=by kernel_rfl
theorem j12:(Rows.cacheOwnsRow.named==Tryz.prog.varsNamed 3)=true:=by kernel_rfl
theorem j24:Tryz.prog.stopsHeard=true:=by kernel_rfl
theorem j25:Tryz.prog.mayEnter=true:=by kernel_rfl
theorem j26:(Rows.cacheOwnsRow.lifted==Tryz.prog.liftsFinal)=true:=by kernel_rfl
theorem j27:(Tryz.prog.make==some Rows.cacheOwnsRow.make)=true:=by kernel_rfl
theorem said:Rows.CacheOwnsSaid:=
 OpenClaim.holds_of_wide 3 Tryz.f3 rfl rfl rfl rfl rfl rfl rfl ⟨rfl,rfl,rfl,rfl,rfl⟩ rfl rfl rfl rfl rfl (by kernel_rfl) func3 (XH (by kernel_rfl) laidOut j2 (by kernel_rfl) (by kernel_rfl) (by kernel_rfl) (by kernel_rfl) (by kernel_rfl) (by kernel_rfl) j9 j10 j11 j12 (by kernel_rfl) (by kernel_rfl) (by kernel_rfl) (by kernel_rfl) (by kernel_rfl) (by kernel_rfl) (by kernel_rfl) (by kernel_rfl) (by kernel_rfl) (by kernel_rfl) (by kernel_rfl) j24 j25 j26 j27 (by kernel_rfl) (by kernel_rfl) (by kernel_rfl) (by kernel_rfl))
  (IF (by kernel_rfl)) (by unfold Func.isWrapper;(rw [As (by decide+kernel)];exact ⟨rfl,rfl⟩))
  (fun os g H enc _=>lifted os g H enc)
theorem plain(f:FuncId)(fn:Func)(hf:Tryz.pinned.checked.prog.funcNamed "cachetier/cachetierlaw18.CacheOwns"=some f)(hfn:Tryz.pinned.checked.prog.funcs[f]?=some fn):
 true=Tryz.pinned.checked.prog.looks []∧∀(j:Nat) t,fn.params[j]?=some t→Tryz.pinned.checked.prog.wantsStandIn t=false:=by
 obtain rfl:f=3:=T7 ((show Tryz.prog.funcNamed "cachetier/cachetierlaw18.CacheOwns"=some 3 by kernel_rfl).symm.trans hf)|>.symm;obtain rfl:fn=Tryz.f3:=(T7 (func3.symm.trans hfn)).symm;refine ⟨by kernel_rfl,fun j t ht=>?_⟩;rw [Tryz.params3]at ht;have hm:t∈[22,23,3,26]:=by have:=Array.mem_of_getElem? ht;simp at this;(simp [this];done)
 have hall:([22,23,3,26].all fun u=>!Tryz.prog.wantsStandIn u)=true:=by kernel_rfl
 exact (show Tryz.prog.wantsStandIn t=false by simpa using Pc.1 hall t hm)
theorem proved:Rows.CacheOwnsCardSaid:=
 Claim7.holds_tied_plain_at .later [] _ _ _ _ said (fun _ h=>by cases h) (by kernel_rfl) (fun _ h=>by cases h) cacheOwns_row_tie rfl ⟨rfl,rfl⟩ (by kernel_rfl) rfl plain (by kernel_rfl)
#print axioms proved
end Go.Proofs.YtelliknjeemfoaaGreatDoor.cacheOwns
