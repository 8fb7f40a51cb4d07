/- Walking by chunks: append of a part of a slice whose elements are of several cells, to an own slice. No function of the program is named. -/
import Derived.Test.YtkdgffcfmgmemaaGreatDoorEz
import Derived.Test.YtkdgffcfmgmemaaGreatDoorEx5
set_option linter.unusedVariables false
set_option linter.unusedSimpArgs false
namespace Gw
open Go Go.RowKit
def M7(sz:Nat)(v:Value)(k:Nat)(ys:List Value)(s:List AR):Prop:=
 ys.length=k*sz∧((k=0∧∃b c,v= .slice b 0 c)∨∃g o cap cur T z,v= .slice (some ⟨g,o,none⟩) k cap∧s=[(g,.cells cur T z)]∧Bw cur o ys)
theorem Db{sz:Nat}{e:TypeId}{v:Value}{k:Nat}{xs:List Value}{s:List AR}(h:BX sz e v k xs s)(hk:0<k):∃g cap cur z,v=I6 g k cap∧s=[(g,.cells cur e z)]∧k≤cap∧Bw cur 0 xs:=by
 obtain ⟨hl,⟨_,h0,_⟩|⟨g,cap,cur,z,rfl,rfl,hle,_,_,htk,_⟩⟩:=h
 · omega
 · refine ⟨g,cap,cur,z,rfl,rfl,hle,?_⟩
   unfold Bw;rw [wO,hl];exact htk
theorem U4{sz:Nat}{e:TypeId}{v:Value}{k:Nat}{xs:List Value}{s:List AR}(h:BX sz e v k xs s):M7 sz v k xs s:=by
 refine ⟨h.1,?_⟩;rcases vJ k with h0|h0
 · obtain ⟨b,c,rfl⟩:=h.form
   subst h0;exact .inl ⟨rfl,b,c,rfl⟩
 · obtain ⟨g,cap,cur,z,rfl,rfl,_,hin⟩:=Db h h0
   exact .inr ⟨g,0,cap,cur,e,z,rfl,rfl,hin⟩
theorem Mf{cur:Array Value}{o a n:Nat}{ys:List Value}(h:Bw cur o ys)(hn:a+n≤ys.length):Bw cur (o+a) ((ys.drop a).take n):=by
 unfold Bw at*;have hl:((ys.drop a).take n).length=n:=by rw [tL,tN];omega
 rw [hl,←yH,←h,zU,xB];congr 1;have:=congrArg List.length h
 rw [tL]at this;omega
theorem Ic{sz:Nat}{e:TypeId}{b:Option Addr}{n c:Nat}{xs:List Value}{s:List AR}(h:BX sz e (.slice b n c) n xs s)(k d:Nat)(hk:k≤n):M7 sz (.slice b k d) k (xs.take (k*sz)) s:=by
 have h1:k*sz≤n*sz:=vY sz hk;refine ⟨by rw [tL,h.1];omega,?_⟩;rcases vJ k with h0|h0
 · subst h0;exact .inl ⟨rfl,b,d,rfl⟩
 · obtain ⟨g,cap,cur,z,hv,rfl,_,hin⟩:=Db h (by omega)
   injection hv with hv1 hv2 hv3
   subst hv1;have h2:=Mf hin (a:=0) (n:=k*sz) (by rw [h.1];omega)
   rw [wO]at h2;exact .inr ⟨g,0,d,cur,e,z,rfl,rfl,h2⟩
theorem Ie{sz:Nat}{e:TypeId}{b:Option Addr}{n c:Nat}{xs:List Value}{s:List AR}(h:BX sz e (.slice b n c) n xs s)(k m d:Nat)(hk:k+m=n):M7 sz (.slice (ER b k c sz) m d) m (xs.drop (k*sz)) s:=by
 have h1:n*sz=k*sz+m*sz:=by rw [←hk,wC]
 refine ⟨by rw [tN,h.1];omega,?_⟩;rcases vJ m with h0|h0
 · subst h0;exact .inl ⟨rfl,_,d,rfl⟩
 · obtain ⟨g,cap,cur,z,hv,rfl,hle,hin⟩:=Db h (by omega)
   injection hv with hv1 hv2 hv3
   subst hv1 hv3;have h2:=Mf hin (a:=k*sz) (n:=m*sz) (by rw [h.1];omega)
   rw [uN (by rw [tN,h.1];omega)]at h2;refine .inr ⟨g,0+k*sz,d,cur,e,z,?_,rfl,h2⟩;unfold ER;rw [if_neg (by omega),vV,CJ]
theorem VD{sz:Nat}{b:Option Addr}{n c:Nat}{xs:List Value}{s:List AR}(h:M7 sz (.slice b n c) n xs s)(k m d:Nat)(hk:k+m=n)(hc:n≤c):M7 sz (.slice (ER b k c sz) m d) m (xs.drop (k*sz)) s:=by
 have h1:n*sz=k*sz+m*sz:=by rw [←hk,wC]
 refine ⟨by rw [tN,h.1];omega,?_⟩;rcases vJ m with h0|h0
 · subst h0;exact .inl ⟨rfl,_,d,rfl⟩
 · obtain ⟨hl,⟨h9,_⟩|⟨g,o,cap,cur,T,z,hv,rfl,hin⟩⟩:=h
   · omega
   · injection hv with hv1 hv2 hv3
     subst hv1 hv3;have h2:=Mf hin (a:=k*sz) (n:=m*sz) (by rw [hl];omega)
     rw [uN (by rw [tN,hl];omega)]at h2;refine .inr ⟨g,o+k*sz,d,cur,T,z,?_,rfl,h2⟩;unfold ER;rw [if_neg (by omega),vV,CJ]
section
variable{P:Program}{u:World}{env:Env}{H R R2:Hp}{d:Option Nat}{ty:TypeId}{pos:String}{af:Array Edge}{g:Option (Nat×Bool)}
theorem BR{x y:Operand}{t e:TypeId}{i:TypeInfo}{z:Value}{by_ sz n k:Nat}{v v2:Value}{xs ys:List Value}{s s2:List AR}
 (ht:P.underlying t=some (.slice e))(hi:P.info? e=some i)(hsz:i.size=sz)(hby:i.bytes=by_)(hzi:i.zero=some z)(hz1:z.cells.size=sz)
 (hx:∀a,ev a env x=v)(hrow:BX sz e v n xs s)(hy:∀a,ev a env y=v2)(hsub:M7 sz v2 k ys s2)(hone:One s H R)(htwo:One s2 R R2)(h1:∀u∈ys,u.oneCell'=true)
 (h63:n+k≤maxLen)(hb:(n+k)*by_≤140737488355328):
 OpW P u ⟨d,.call ⟨.builtin .append,#[x,y],#[t,t]⟩,ty,pos,af,g⟩ env H (fun v' H1=>∃s',BX sz e v' (n+k) (xs++ys) s'∧H1=s'::R) (fun _ _=>False):=by
 obtain ⟨hl,⟨rfl,b2,c2,rfl⟩|⟨gb,o,cap,cur,T,zz,rfl,rfl,hin⟩⟩:=hsub
 · have hy0:ys=[]:=uf (by omega)
   subst hy0;obtain ⟨b,c,rfl⟩:=hrow.form;have hle:n≤c:=by
    obtain ⟨_,⟨hv,h0,_⟩|⟨_,_,_,_,hv,_,h2,_⟩⟩:=hrow
    · omega
    · injection hv with _ _ hv3;omega
   intro a w hsat K Kp hK _;have hs1:Sat u (s::R) w:=hsat.perm (by simpa using hone.perm)
   have hl0:(Builtin.firstCells i.size 0 (.slice b2 0 c2)).run P w= .ok #[] w:=by
    cases b2 with
    |none=>simp [Builtin.firstCells]
    |some ad=>simp [Builtin.firstCells,loadCells,loadCellsFrom]
   have hr:(Builtin.append_ #[t,t] ty #[.slice b n c,.slice b2 0 c2]).run P w= .ok (.slice b n c) w:=by
    rw [hsz]at hl0;cases b with
    |none=>simp [Builtin.append_,run_underlying ht,Go.sizeOf,typeInfo,hi,hsz,Builtin.lenOf,hle,hl0]
    |some ad=>simp [Builtin.append_,run_underlying ht,Go.sizeOf,typeInfo,hi,hsz,Builtin.lenOf,hle,hl0,storeCells]
   have hx':(execOp (ev a env) ⟨d,.call ⟨.builtin .append,#[x,y],#[t,t]⟩,ty,pos,af,g⟩).run P w= .ok (.value (.slice b n c)) w:=by
    simp only [EJ,resolve,invoke,builtin,wV,uo,wM,hx a,hy a,Sem.run_bind,Sem.run_pure,Result.andThen_ok,hr]
   rw [hx'];exact hK _ _ _ ⟨s,by rw [uR];exact hrow,rfl⟩ hs1
 · rcases vJ k with h0|h0
   · subst h0
     have hy0:ys=[]:=uf (by omega);subst hy0;obtain ⟨b,c,rfl⟩:=hrow.form;have hle:n≤c:=by
      obtain ⟨_,⟨hv,h0,_⟩|⟨_,_,_,_,hv,_,h2,_⟩⟩:=hrow
      · omega
      · injection hv with _ _ hv3;omega
     intro a w hsat K Kp hK _;have hs1:Sat u (s::R) w:=hsat.perm (by simpa using hone.perm)
     have hl0:(Builtin.firstCells i.size 0 (.slice (some ⟨gb,o,none⟩) 0 cap)).run P w= .ok #[] w:=by simp [Builtin.firstCells,loadCells,loadCellsFrom]
     have hr:(Builtin.append_ #[t,t] ty #[.slice b n c,.slice (some ⟨gb,o,none⟩) 0 cap]).run P w= .ok (.slice b n c) w:=by
      rw [hsz]at hl0;cases b with
      |none=>simp [Builtin.append_,run_underlying ht,Go.sizeOf,typeInfo,hi,hsz,Builtin.lenOf,hle,hl0]
      |some ad=>simp [Builtin.append_,run_underlying ht,Go.sizeOf,typeInfo,hi,hsz,Builtin.lenOf,hle,hl0,storeCells]
     have hx':(execOp (ev a env) ⟨d,.call ⟨.builtin .append,#[x,y],#[t,t]⟩,ty,pos,af,g⟩).run P w= .ok (.value (.slice b n c)) w:=by
      simp only [EJ,resolve,invoke,builtin,wV,uo,wM,hx a,hy a,Sem.run_bind,Sem.run_pure,Result.andThen_ok,hr]
     rw [hx'];exact hK _ _ _ ⟨s,by rw [uR];exact hrow,rfl⟩ hs1
   · exact DF ht hi hsz hby hzi hz1 hx hrow hy hone htwo.has hin hl h1 h0 h63 hb
end
end Gw
