/- The statement ProofUnique (its tied card): for every input the law returns true, and the input reads as it did. Conditions: the listed package-level variables hold what the program's text lays (tied by the card). -/
import Derived.Test.YtkdgffcfmgmemaaGreatDoorEz
import Derived.Test.YtkdgffcfmgmemaaGreatDoorCards
import Derived.Test.YtkdgffcfmgmemaaGreatDoorTie
import Derived.Test.YtkdgffcfmgmemaaGreatDoorTk1
import Derived.LaidMore
import Derived.Lay
import Derived.SevenTiedAt
import Derived.Stop.Joined
import Derived.Test.YtkdgffcfmgmemaaGreatDoorTkJ
set_option linter.unusedVariables false
set_option linter.unusedSimpArgs false
namespace Go.Proofs.YtkdgffcfmgmemaaGreatDoor.proofUnique
open Go.Proofs.Tryz
open Go.ChangeShapes Go.WideShapes Go.ChangeAt Go.RowKit
open Go Gw
theorem own:ownKnob Tryz.prog.godebug=none:=by kernel_rfl
theorem laidOut:laidOutB Tryz.prog=true:=by kernel_rfl
set_option maxRecDepth 100000 in
theorem lifted(os:Os)(started:os.Started)(H:Type)(enc:TypeId×Value→H):
 ReturnsInHanded {} Tryz.checked os 5 .any (fun w args=>(Rows.proofUniqueSpec.pre enc Tryz.prog Tryz.f5 Rows.proofUniqueRow.domain false w args∧laidMetH Tryz.prog Rows.proofUniqueRow.laid w)∧sizedMet enc Tryz.prog Tryz.f5 (OpenSpec.ofChange Rows.proofUniqueSpec) false w args)
  (Rows.proofUniqueSpec.post enc Tryz.prog Tryz.f5 false true false false):=by
 refine returnsInHanded_of_change_and (C:=Tryz.checked) (X:=fun w _=>laidMetH Tryz.prog Rows.proofUniqueRow.laid w) (fun _ _ _ hh h=>h.of_heap hh) own started (by kernel_rfl) func5
  (ChangeSpec.witness_shaped (enc:=enc) (C:=Tryz.checked) (os:=os) (X:=fun w _=>laidMetH Tryz.prog Rows.proofUniqueRow.laid w) false (World.laidAll Tryz.prog os Rows.proofUniqueRow.laid) #[.agg #[.slice none 0 0,.int .i64 0,.int .i64 0,.int .i64 0,.int .i64 0,.int .i64 0,.int .i64 0,.int .i64 0,.slice none 0 0],.agg #[.slice none 0 0,.int .i64 0,.bool false],.int .i64 0,.int .i64 0] 8 (World.laidAll_os _ _ _)
    (World.shaped_of_ZipB (by kernel_rfl) (by kernel_rfl)) (by kernel_rfl) (by kernel_rfl) (by kernel_rfl)
    (by rw [MakeChecks.laidMetH_plain _ _ _ (by kernel_rfl)];exact laidMet_laidAll _ (by kernel_rfl) (by kernel_rfl))) ?_
 intro W base args ds gs before hval0 hW hc hzz hL _;have hval:∀(j:Nat) t v,Tryz.f5.params[j]?=some t→args[j]?=some v→Value.okWide Tryz.prog W .any base t v:=hval0
 have hW':=hW;obtain ⟨p,q,hA0,hV,rfl,hfz,hnd⟩:=hW;have hA:DataW.TrodAll enc Tryz.prog W 0 (fun _=>true) true Tryz.f5.params.toList args.toList ds p:=hA0
 rw [Tryz.params5]at hA hval;obtain ⟨v0,vs0,d0,ds0,p0,q0,hargs,rfl,rfl,h0,r0⟩:=trodAll_cons hA;obtain ⟨v1,vs1,d1,ds1,p1,q1,rfl,rfl,rfl,h1,r1⟩:=trodAll_cons r0;obtain ⟨v2,vs2,d2,ds2,p2,q2,rfl,rfl,rfl,h2,r2⟩:=trodAll_cons r1;obtain ⟨v3,vs3,d3,ds3,p3,q3,rfl,rfl,rfl,h3,r3⟩:=trodAll_cons r2;obtain ⟨rfl,rfl,rfl⟩:=trodAll_nil r3;obtain rfl:args=#[v0,v1,v2,v3]:=by cases args;simp_all
 obtain ⟨rfl,rfl⟩:=trodVars_none hV;obtain ⟨Tg,zg,b4⟩:=j5 (r:=_) (by rw [MakeChecks.laidMetH_plain _ _ _ (by kernel_rfl)]at hL;exact hL);obtain ⟨cs0,rfl,cz0⟩:=Qf underlying26 (hval 0 26 v0 rfl rfl);rw [q8]at cz0;have k0:=h0
 have lt0:∀x∈p0,x.block<W.heap.size:=by obtain ⟨m,hm⟩:=k0;exact DataW.trod_lt m _ _ _ hm
 obtain ⟨fuel0,hf0⟩:=h0;obtain ⟨x0,cap0,ys0,na0,nb0,nc0,ne0,nf0,ng0,nh0,tw0,he0,hm0,bna0,bnb0,bnc0,bne0,bnf0,bng0,bnh0⟩:=Y4 b4 hf0 (by simpa [Value.cells]using cz0);obtain rfl:cs0=#[.slice x0 ys0.length cap0,.int .i64 na0,.int .i64 nb0,.int .i64 nc0,.int .i64 ne0,.int .i64 nf0,.int .i64 ng0,.int .i64 nh0,tw0]:=vS.1 (by simpa [Value.cells]using he0);obtain ⟨cs1,rfl,cz1⟩:=Qf underlying51 (hval 1 51 v1 rfl rfl);rw [rT]at cz1;have k1:=h1
 have lt1:∀x∈p1,x.block<W.heap.size:=by obtain ⟨m,hm⟩:=k1;exact DataW.trod_lt m _ _ _ hm
 obtain ⟨fuel1,hf1⟩:=h1;obtain ⟨x1,cap1,rs1,rv1,rf1,he1,hm1⟩:=dB b4 hf1 (by simpa [Value.cells]using cz1);obtain rfl:cs1=#[.slice x1 rs1.length cap1,.int .i64 rv1,.bool rf1]:=vS.1 (by simpa [Value.cells]using he1);obtain ⟨a2,rfl,rfl,rfl,w2⟩:=open_int underlying3 (hval 2 3 v2 rfl rfl) h2;obtain ⟨a3,rfl,rfl,rfl,w3⟩:=open_int underlying3 (hval 3 3 v3 rfl rfl) h3;clear hA0 hval0;refine (mi b4 (V9 x0 cap0 ys0 _ hm0 na0 nb0 nc0 ne0 nf0 ng0 nh0 bna0 bnb0 bnc0 bne0 bnf0 bng0 bnh0 tw0 x1 cap1 rs1 rv1 rf1 hm1 a2 (bounds_i64 w2).1 (bounds_i64 w2).2 a3 (bounds_i64 w3).1 (bounds_i64 w3).2 Tg zg)).mono fun e W' ⟨he,bel⟩=>?_;subst he;exact ⟨_,rfl,_,_,_,[],_,[],hW',trodAll_mk1 (shut_bool underlying4 _),(trodAll_cons_mk (Below.trod laidOut (by kernel_rfl) (of_decide_eq_true (by kernel_rfl)) k0 bel lt0) (trodAll_cons_mk (Below.trod laidOut (by kernel_rfl) (of_decide_eq_true (by kernel_rfl)) k1 bel lt1) (trodAll_cons_mk (shut_int underlying3 w2) (trodAll_cons_mk (shut_int underlying3 w3) trodAll_mk0)))),rfl,bel.frame _,fun h=>by cases h⟩
theorem j2:mapsRowed Tryz.prog=true:=by kernel_rfl
theorem j9:(Rows.proofUniqueRow.inPlace==Tryz.prog.inPlace 5)=true:=by kernel_rfl
theorem j10:(Rows.proofUniqueRow.unfollowed==Tryz.prog.unfollowed 5)=true:=by kernel_rfl
theorem j11:(Rows.proofUniqueRow.recurses==Tryz.prog.recurses 5)=true:=by kernel_rfl
theorem j12:(Rows.proofUniqueRow.named==Tryz.prog.varsNamed 5)=true:=by kernel_rfl
theorem j24:Tryz.prog.stopsHeard=true:=by kernel_rfl
theorem j25:Tryz.prog.mayEnter=true:=by kernel_rfl
theorem j26:(Rows.proofUniqueRow.lifted==Tryz.prog.liftsFinal)=true:=by kernel_rfl
theorem j27:(Tryz.prog.make==some Rows.proofUniqueRow.make)=true:=by kernel_rfl
theorem said:Rows.ProofUniqueSaid:=
 OpenClaim.holds_of_wide 5 Tryz.f5 rfl rfl rfl rfl rfl rfl rfl ⟨rfl,rfl,rfl,rfl,rfl⟩ rfl rfl rfl rfl rfl (by kernel_rfl) func5 (UW (by kernel_rfl) laidOut j2 (by kernel_rfl) (by kernel_rfl) (by kernel_rfl) (by kernel_rfl) (by kernel_rfl) (by kernel_rfl) j9 j10 j11 j12 (by kernel_rfl) (by kernel_rfl) (by kernel_rfl) (by kernel_rfl) (by kernel_rfl) (by kernel_rfl) (by kernel_rfl) (by kernel_rfl) (by kernel_rfl) (by kernel_rfl) (by kernel_rfl) j24 j25 j26 j27 (by kernel_rfl) (by kernel_rfl) (by kernel_rfl) (by kernel_rfl))
  (of_decide_eq_true (by kernel_rfl)) (by unfold Func.isWrapper;first|(rw [if_pos (by decide+kernel)];kernel_rfl)|(rw [if_neg (by decide+kernel)];exact ⟨rfl,rfl⟩))
  (fun os started H enc _=>lifted os started H enc)
theorem plain(f:FuncId)(fn:Func)(hf:Tryz.pinned.checked.prog.funcNamed "cachetier/cachetierlaw11.ProofUnique"=some f)(hfn:Tryz.pinned.checked.prog.funcs[f]?=some fn):
 true=Tryz.pinned.checked.prog.looks []∧∀(j:Nat) t,fn.params[j]?=some t→Tryz.pinned.checked.prog.wantsStandIn t=false:=by
 obtain rfl:f=5:=wN ((show Tryz.prog.funcNamed "cachetier/cachetierlaw11.ProofUnique"=some 5 by kernel_rfl).symm.trans hf)|>.symm;obtain rfl:fn=Tryz.f5:=(wN (func5.symm.trans hfn)).symm;refine ⟨by kernel_rfl,fun j t ht=>?_⟩;rw [Tryz.params5]at ht;have hm:t∈[26,51,3]:=by have:=Array.mem_of_getElem? ht;simp at this;first|(simp [this];done)|(rcases this with h|h|h|h<;>simp [h])|(rcases this with h|h|h<;>simp [h])|(rcases this with h|h<;>simp [h])|(rcases this with h<;>simp [h])
 have hall:([26,51,3].all fun u=>!Tryz.prog.wantsStandIn u)=true:=by kernel_rfl
 exact (show Tryz.prog.wantsStandIn t=false by simpa using vL.1 hall t hm)
theorem proved:Rows.ProofUniqueCardSaid:=
 Claim7.holds_tied_plain_at .later [] _ _ _ _ said (fun _ h=>by cases h) (by kernel_rfl) (fun _ h=>by cases h) proofUnique_row_tie rfl ⟨rfl,rfl⟩ (by kernel_rfl) rfl plain (by kernel_rfl)
#print axioms proved
end Go.Proofs.YtkdgffcfmgmemaaGreatDoor.proofUnique
