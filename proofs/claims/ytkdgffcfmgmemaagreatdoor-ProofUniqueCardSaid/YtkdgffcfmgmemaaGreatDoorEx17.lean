/- Walking by chunks: append to a part of a row whose capacity is its length: a new row. No function of the program is named. -/
import Derived.Test.YtkdgffcfmgmemaaGreatDoorEx16
set_option linter.unusedVariables false
set_option linter.unusedSimpArgs false
namespace Gw
open Go Go.RowKit
theorem One.memF{s:List AR}{H R:Hp}(h:One s H R):∀p∈s,p∈H.flatten:=fun p hp=>by
 have:=h.perm.mem_iff (a:=p);exact this.2 (u6 _ hp)
section
variable{P:Program}{u:World}{env:Env}{H R R2:Hp}{d:Option Nat}{ty:TypeId}{pos:String}{af:Array Edge}{g:Option (Nat×Bool)}
theorem KW{x y:Operand}{t e:TypeId}{i:TypeInfo}{z:Value}{by_ sz n k:Nat}{b:Option Addr}{v2:Value}{xs ys:List Value}{s s2:List AR}
 (ht:P.underlying t=some (.slice e))(hi:P.info? e=some i)(hsz:i.size=sz)(hby:i.bytes=by_)(hzi:i.zero=some z)(hz1:z.cells.size=sz)
 (hx:∀a,ev a env x= .slice b n n)(hsub:M7 sz (.slice b n n) n xs s)(hy:∀a,ev a env y=v2)(hsub2:M7 sz v2 k ys s2)(hone:One s H R)(htwo:One s2 H R2)(hk:0<k)
 (h63:n+k≤maxLen)(hb:(n+k)*by_≤140737488355328):
 OpW P u ⟨d,.call ⟨.builtin .append,#[x,y],#[t,t]⟩,ty,pos,af,g⟩ env H (fun v' H1=>∃s',BX sz e v' (n+k) (xs++ys) s'∧H1=s'::H) (fun _ _=>False):=by
 obtain ⟨hl2,⟨h0,_⟩|⟨g2,o2,cap2,cur2,T2,z2,rfl,rfl,hin2⟩⟩:=hsub2
 · omega
 intro a w hsat K Kp hK _;have hnw:=I7 (hsat.get _ (htwo.memF (g2,.cells cur2 T2 z2) (by simp))) hin2
 have hl':ys.length=k*i.size:=by rw [hsz];exact hl2
 have hml:maxLen=9223372036854775807:=rfl;have run_of:∀{v':Value} {w':World},(Builtin.append_ #[t,t] ty #[.slice b n n,.slice (some ⟨g2,o2,none⟩) k cap2]).run P w= .ok v' w'→(execOp (ev a env) ⟨d,.call ⟨.builtin .append,#[x,y],#[t,t]⟩,ty,pos,af,g⟩).run P w= .ok (.value v') w':=fun h=>by
  simp only [EJ,resolve,invoke,builtin,wV,uo,wM,hx a,hy a,Sem.run_bind,Sem.run_pure,Result.andThen_ok,h]
 have fresh:∀(m:Nat) (cells:Array Value) (w1:World),w1={w with drawn:=m,heap:=w.heap.push (.cells cells e)}→Sat u ([(w.heap.size,.cells cells e (0,0))]::H) w1:=fun m cells w1 h=>by
  subst h;exact (hsat.drawn m).alloc _
 have hall:(xs++ys).length=(n+k)*sz:=by rw [tK,hsub.1,hl2,wC]
 have split:∀m p:Nat,p≤m→p*sz+(m -p)*sz=m*sz:=fun m p h=>by rw [←wC];congr 1;omega
 have grow:∀(ad:Addr),b=some ad→(∀j v,xs[j]?=some v→w.cell? (ad.add j)=some v)→SH P K Kp ((execOp (ev a env) ⟨d,.call ⟨.builtin .append,#[x,y],#[t,t]⟩,ty,pos,af,g⟩).run P w):=fun ad hb0 holds=>by
  subst hb0;have hr:=run_append_grow (P:=P) w t ty e i z ht hi hzi ad n n xs (by rw [hsz];exact hsub.1) holds ⟨g2,o2,none⟩ k cap2 ys hl' hnw (by omega) (by omega) (growslice_fits (by omega) (by rw [hby];exact hb))
  rw [run_of hr];have hge:=grownCap_ge w (n+k) n e
  have hcap:grownCap w (n+k) n e≤maxLen:=grownCap_le_maxLen w (n+k) n e h63;refine hK _ _ _ ⟨[(w.heap.size,.cells (xs.toArray++ys.toArray++Builtin.zeroCells z.cells (grownCap w (n+k) n e -(n+k))) e (0,0))],⟨hall,.inr ⟨w.heap.size,grownCap w (n+k) n e,_,(0,0),rfl,rfl,hge,hcap,?_,?_,BQ _⟩⟩,rfl⟩ (fresh _ _ _ rfl)
  · simp only [yD,size_zeroCells,hz1,uP]
    have h1:=split _ _ hge;rw [tK]at hall;rw [hall];exact h1
  · simp only [xO]
    exact ul (by simpa using hall)
 obtain ⟨hl,⟨h0,b9,c9,hb9⟩|⟨g1,o1,cap1,cur1,T1,z1,hv,rfl,hin1⟩⟩:=hsub
 · subst h0
   have hx0:xs=[]:=uf (by omega);cases b with
   |some ad=>exact grow ad rfl (fun j v hj=>by rw [hx0]at hj;cases hj)
   |none=>
    subst hx0;have hr:=run_append_nil (P:=P) w t ty e i z ht hi hzi ⟨g2,o2,none⟩ k cap2 ys hl' hnw hk (by omega) (by rw [hby];exact xk (by simpa using hb) (by decide:140737488355328≤281474976710656))
    rw [run_of hr];have hge:=grownCap_ge w k 0 e
    have hcap:grownCap w k 0 e≤maxLen:=grownCap_le_maxLen w k 0 e (by omega);refine hK _ _ _ ⟨[(w.heap.size,.cells (ys.toArray++Builtin.zeroCells z.cells (grownCap w k 0 e -k)) e (0,0))],⟨hall,.inr ⟨w.heap.size,grownCap w k 0 e,_,(0,0),by simp,rfl,by omega,hcap,?_,?_,BQ _⟩⟩,rfl⟩ (fresh _ _ _ rfl)
    · simp only [yD,size_zeroCells,hz1,uP,hl2]
      exact split _ _ hge
    · simp only [xO,vN,uL]
      exact ul hl2
 · injection hv with hv1 hv2 hv3
   refine grow ⟨g1,o1,none⟩ hv1 fun j v hj=>?_;have h9:=I7 (hsat.get _ (hone.memF (g1,.cells cur1 T1 z1) (by simp))) hin1
   exact h9 j v hj
theorem JH{t e:TypeId}{x hi mx:Operand}{b:Option Addr}{n cap h s:Nat}{hk mk:IntKind}(hu:P.underlying t=some (.slice e))(hs:∀w:World,(Go.sizeOf e).run P w= .ok s w)(hx:∀a,ev a env x= .slice b n cap)(hh:∀a,ev a env hi= .int hk (h:Int))(hm:∀a,ev a env mx= .int mk (h:Int))(h2:h≤cap):
 OpP P ⟨d,.slice t x none (some hi) (some mx),ty,pos,af,g⟩ env [] (.slice b h h):=fun a w _=>by
 cases b<;>simp [Gu,hx a,hh a,hm a,Instr.sliceAt,Instr.slice,run_underlying hu,Instr.sliceBounds,Instr.sliceBound,asIntOf,h2,hs,Addr.add]
theorem Iq(sz:Nat)(e:TypeId)(g k:Nat)(xs:List Value)(h:xs.length=k*sz)(hk:k≤maxLen):BX sz e (I6 g k k) k xs [(g,.cells xs.toArray e (0,0))]:=
 ⟨h,.inr ⟨g,k,xs.toArray,(0,0),rfl,rfl,tQ _,hk,by simp [h],uN (by simp [h]),BQ _⟩⟩
end
end Gw
