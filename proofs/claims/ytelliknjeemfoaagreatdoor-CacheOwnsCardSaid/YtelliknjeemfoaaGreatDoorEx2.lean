/- Walking by chunks: what each operation comes to. No function of the program is named. -/
import Derived.Test.YtelliknjeemfoaaGreatDoorEx1
import Derived.WalkLawsBesides
set_option linter.unusedVariables false
set_option linter.unusedSimpArgs false
namespace Gw
open Go Go.RowKit
theorem Cn{w:A4}{b i:Nat}{c:AM}{T:AK}{z:Nat×Nat}{v:A2}(h:w.heap[b]?=some (.cells c T z))(hv:c[i]?=some v):w.cell? ⟨b,i,none⟩=some v:=by
 simp [World.cell?,h,hv]
theorem CW(b o n:Nat):(⟨b,o,none⟩:Addr).add n=⟨b,o+n,none⟩:=by
 unfold Addr.add;split;· rename_i h;subst h;rfl
 · rfl
section
variable(ρ:Operand->A2)(d:Option Nat)(ty:AK)(pos:String)(af:Array Edge)(g:Option (Nat×Bool))
theorem A17(x:Operand):execOp ρ ⟨d,.move x,ty,pos,af,g⟩=pure (.value (ρ x)):=rfl
theorem oL(x:Operand):execOp ρ ⟨d,.assign x,ty,pos,af,g⟩=pure (.value (ρ x)):=rfl
theorem oK(c x y:Operand):execOp ρ ⟨d,.pick c x y,ty,pos,af,g⟩=(do pure (.value (if<-asBool (ρ c)then ρ x else ρ y))):=rfl
theorem wG(t:AK):execOp ρ ⟨d,.alloc t,ty,pos,af,g⟩=(do pure (.value (<-Instr.alloc t true (.tuple #[])))):=rfl
theorem wa(t:AK)(x:Operand):execOp ρ ⟨d,.box t x,ty,pos,af,g⟩=(do pure (.value (<-Instr.box t (ρ x)))):=rfl
theorem wF(t:AK)(ps:Array (Nat×Operand)):execOp ρ ⟨d,.build t ps,ty,pos,af,g⟩=(do pure (.value (<-Instr.build t (ps.map fun(i,x)=>(i,ρ x))))):=rfl
theorem Ny(t:AK)(n:Nat)(ps:Array (Nat×Operand)):execOp ρ ⟨d,.buildSlice t n ps,ty,pos,af,g⟩=(do pure (.value (<-Instr.buildSlice t n (ps.map fun(i,x)=>(i,ρ x))))):=rfl
theorem bC(t:AK)(x:Operand):execOp ρ ⟨d,.load t x,ty,pos,af,g⟩=(do pure (.value (<-Instr.loadAt t (ρ x)))):=rfl
theorem R3(t:AK)(x y:Operand):execOp ρ ⟨d,.store t x y,ty,pos,af,g⟩=(do Instr.storeAt t (ρ x) (ρ y);pure .skip):=rfl
theorem Cm(B:BinOp)(t:AK)(x y:Operand)(yt:AK):execOp ρ ⟨d,.binOp B t x y yt,ty,pos,af,g⟩=(do let v<-(do eqGuard B t x y (ρ x) (ρ y);binOp B t (ρ x) (ρ y));pure (.value v)):=rfl
theorem WK(B:UnOp)(t:AK)(x:Operand):execOp ρ ⟨d,.unOp B t x,ty,pos,af,g⟩=(do pure (.value (<-Op.unary B (ρ x)))):=rfl
theorem Jp(s t:AK)(x:Operand):execOp ρ ⟨d,.convert s t x,ty,pos,af,g⟩=(do pure (.value (<-convert s t (ρ x)))):=rfl
theorem bB(B:Fn)(p q:Array Operand):execOp ρ ⟨d,.makeFunc B p q,ty,pos,af,g⟩=(do pure (.value (<-Instr.makeFunc B (p.map ρ) (q.map ρ)))):=rfl
theorem QE(t:AK)(l c:Operand):execOp ρ ⟨d,.makeSlice t l c,ty,pos,af,g⟩=(do pure (.value (<-Instr.makeSlice t (ρ l) (ρ c)))):=rfl
theorem KN(t:AK)(x:Operand)(lo hi B:Option Operand):execOp ρ ⟨d,.slice t x lo hi B,ty,pos,af,g⟩=(do pure (.value (<-Instr.sliceAt t (ρ x) (lo.map ρ) (hi.map ρ) (B.map ρ)))):=rfl
theorem Xl(t:AK)(x:Operand)(f:Nat):execOp ρ ⟨d,.fieldAddr t x f,ty,pos,af,g⟩=(do pure (.value (<-Instr.fieldAt t (ρ x) f))):=rfl
theorem wE(t:AK)(x:Operand)(f:Nat):execOp ρ ⟨d,.field t x f,ty,pos,af,g⟩=(do pure (.value (<-Instr.field t (ρ x) f))):=rfl
theorem IE(t:AK)(x i:Operand):execOp ρ ⟨d,.indexAddr t x i,ty,pos,af,g⟩=(do pure (.value (<-Instr.indexAt t (ρ x) (ρ i)))):=rfl
theorem wD(t:AK)(x i:Operand):execOp ρ ⟨d,.index t x i,ty,pos,af,g⟩=(do pure (.value (<-Instr.index t (ρ x) (ρ i)))):=rfl
theorem jZ(x:Operand)(i:Nat):execOp ρ ⟨d,.extract x i,ty,pos,af,g⟩=(do pure (.value (<-Instr.extract (ρ x) i))):=rfl
theorem E8(c:Call):execOp ρ ⟨d,.call c,ty,pos,af,g⟩=(do let e<-resolve ρ c ty;invoke e.target e.args):=rfl
theorem RH(x:Operand):execOp ρ ⟨d,.nilCheck x,ty,pos,af,g⟩=(match ρ x with
 | .pointer none| .nilIface| .nilFunc=>runtimePanic .nilDeref
 | .func (.method name) first captured=>
   match(first[0]?:Option A2)with
   |some .nilIface=>runtimePanic .nilDeref
   |some (.iface t w)=>do
    if(<-nilAhead ((<-program).types.size+Made.depth) t w name)!=some false then
     unsupported (.noEntry "op/nilCheck.the method's receiver behind this interface value is a nil pointer, or cannot be seen to be none, and the arguments act or may panic (ledger 612)")
    pure (.value (.func (.method name) first captured))
   |_=>pure (.value (.func (.method name) first captured))
 |x=>pure (.value x)):=rfl
end
theorem I5(t:AK)(x y:A2):Op.equal t x y=Op.equalIn (9999+1) t x y:=rfl
section
variable{P:Program}(w:A4){n:Nat}{t e:AK}
theorem Kh{p:B8}(B:P.underlying t=some (.pointer e)):(Op.equalIn (n+1) t (.pointer p) (.pointer none)).run P w= .ok p.isNone w:=by
 cases p<;>simp [Op.equalIn,run_underlying B]
theorem XO{p:B8}{a b:Nat}(B:P.underlying t=some (.slice e)):(Op.equalIn (n+1) t (.slice p a b) (.slice none 0 0)).run P w= .ok p.isNone w:=by
 cases p<;>simp [Op.equalIn,run_underlying B]
theorem jN{p q:Bool}(B:P.underlying t=some .bool):(Op.equalIn (n+1) t (.bool p) (.bool q)).run P w= .ok (p==q) w:=by
 simp [Op.equalIn,run_underlying B]
theorem Jf(p q:B8):binOp .eql t (.pointer p) (.pointer q)=(do pure (.bool (<-Op.equal t (.pointer p) (.pointer q)))):=by cases p<;>cases q<;>rfl
theorem Je(p q:B8):binOp .neq t (.pointer p) (.pointer q)=(do pure (.bool (!(<-Op.equal t (.pointer p) (.pointer q))))):=by cases p<;>cases q<;>rfl
theorem Ua(p q:B8)(a b c d:Nat):binOp .eql t (.slice p a b) (.slice q c d)=(do pure (.bool (<-Op.equal t (.slice p a b) (.slice q c d)))):=rfl
theorem P9(p q:Bool):binOp .eql t (.bool p) (.bool q)=(do pure (.bool (<-Op.equal t (.bool p) (.bool q)))):=rfl
theorem P8(p q:Bool):binOp .neq t (.bool p) (.bool q)=(do pure (.bool (!(<-Op.equal t (.bool p) (.bool q))))):=rfl
theorem Xa(B:BinOp)(s r:C4):binOp B t (.string s) (.string r)=Op.stringOp B s r:=by cases B<;>rfl
end
section
variable{P:Program}{env:Env}{d:Option Nat}{ty:AK}{pos:String}{af:Array Edge}{g:Option (Nat×Bool)}
theorem AQ{x:Operand}{v:A2}(h:∀a,ev a env x=v):OpP P ⟨d,.move x,ty,pos,af,g⟩ env [] v:=fun a w _=>by simp [A17,h a]
theorem BI{x:Operand}{v:A2}(h:∀a,ev a env x=v):OpP P ⟨d,.assign x,ty,pos,af,g⟩ env [] v:=fun a w _=>by simp [oL,h a]
theorem AL{c x y:Operand}{v:A2}(hc:∀a,ev a env c= .bool true)(h:∀a,ev a env x=v):OpP P ⟨d,.pick c x y,ty,pos,af,g⟩ env [] v:=fun a w _=>by simp [oK,hc a,h a,asBool]
theorem AO{c x y:Operand}{v:A2}(hc:∀a,ev a env c= .bool false)(h:∀a,ev a env y=v):OpP P ⟨d,.pick c x y,ty,pos,af,g⟩ env [] v:=fun a w _=>by simp [oK,hc a,h a,asBool]
theorem dx{x:Operand}{p:Addr}(h:∀a,ev a env x= .pointer (some p)):OpP P ⟨d,.nilCheck x,ty,pos,af,g⟩ env [] (.pointer (some p)):=fun a w _=>by simp [RH,h a]
theorem Pp{x:Operand}{t:AK}{v:A2}(h:∀a,ev a env x= .iface t v):OpP P ⟨d,.nilCheck x,ty,pos,af,g⟩ env [] (.iface t v):=fun a w _=>by simp [RH,h a]
def ry:A2->Bool
 | .pointer (some _)=>true
 | .iface _ _=>true
 |_=>false
theorem Aq{x:Operand}{v:A2}(h:∀a,ev a env x=v)(hv:ry v=true):OpP P ⟨d,.nilCheck x,ty,pos,af,g⟩ env [] v:=by
 unfold ry at hv;split at hv;· exact dx h
 · exact Pp h
 · cases hv
theorem CV{x:Operand}{i:Nat}{vs:AM}{v:A2}(h:∀a,ev a env x= .tuple vs)(hv:vs[i]?=some v):OpP P ⟨d,.extract x i,ty,pos,af,g⟩ env [] v:=fun a w _=>by simp [jZ,h a,Instr.extract,hv]
section
variable{t yt:AK}{x y:Operand}{k:IntKind}{m n c:Int}
theorem JX(hx:∀a,ev a env x= .int k m)(hy:∀a,ev a env y= .int k n)(hc:k.wrap (m+n)=c):OpP P ⟨d,.binOp .add t x y yt,ty,pos,af,g⟩ env [] (.int k c):=fun a w _=>by
 simp [Cm,hx a,hy a,go_sem,hc]
theorem Gu(hx:∀a,ev a env x= .int k m)(hy:∀a,ev a env y= .int k n)(hc:k.wrap (m -n)=c):OpP P ⟨d,.binOp .sub t x y yt,ty,pos,af,g⟩ env [] (.int k c):=fun a w _=>by
 simp [Cm,hx a,hy a,go_sem,hc]
theorem rG(hx:∀a,ev a env x= .int k m)(hy:∀a,ev a env y= .int k n)(hc:k.wrap (m*n)=c):OpP P ⟨d,.binOp .mul t x y yt,ty,pos,af,g⟩ env [] (.int k c):=fun a w _=>by
 simp [Cm,hx a,hy a,go_sem,hc]
theorem rE(hx:∀a,ev a env x= .int k m)(hy:∀a,ev a env y= .int k n)(h0:n≠0)(hc:k.wrap (m.tdiv n)=c):OpP P ⟨d,.binOp .quo t x y yt,ty,pos,af,g⟩ env [] (.int k c):=fun a w _=>by
 simp [Cm,hx a,hy a,go_sem,hc,h0]
theorem zF(hx:∀a,ev a env x= .int k m)(hy:∀a,ev a env y= .int k n)(h0:n≠0)(hc:m.tmod n=c):OpP P ⟨d,.binOp .rem t x y yt,ty,pos,af,g⟩ env [] (.int k c):=fun a w _=>by
 simp [Cm,hx a,hy a,go_sem,hc,h0]
theorem rO(hx:∀a,ev a env x= .int k m)(hy:∀a,ev a env y= .int k n)(hc:bits .and k m n=c):OpP P ⟨d,.binOp .and t x y yt,ty,pos,af,g⟩ env [] (.int k c):=fun a w _=>by
 simp [Cm,hx a,hy a,go_sem,hc]
theorem ra(hx:∀a,ev a env x= .int k m)(hy:∀a,ev a env y= .int k n)(hc:bits .or k m n=c):OpP P ⟨d,.binOp .or t x y yt,ty,pos,af,g⟩ env [] (.int k c):=fun a w _=>by
 simp [Cm,hx a,hy a,go_sem,hc]
theorem zD(hx:∀a,ev a env x= .int k m)(hy:∀a,ev a env y= .int k n)(hc:bits .xor k m n=c):OpP P ⟨d,.binOp .xor t x y yt,ty,pos,af,g⟩ env [] (.int k c):=fun a w _=>by
 simp [Cm,hx a,hy a,go_sem,hc]
theorem iY{G:IntKind}(hx:∀a,ev a env x= .int k m)(hy:∀a,ev a env y= .int G n)(h0:0<=n)(B:n<=k.bits)(hc:k.wrap (m*2^n.toNat)=c):OpP P ⟨d,.binOp .shl t x y yt,ty,pos,af,g⟩ env [] (.int k c):=fun a w _=>by
 simp [Cm,hx a,hy a,go_sem,shift_shl _ _ _ _ h0 B,hc]
theorem rD{G:IntKind}(hx:∀a,ev a env x= .int k m)(hy:∀a,ev a env y= .int G n)(h0:0<=n)(B:n<=k.bits)(hc:m/2^n.toNat=c):OpP P ⟨d,.binOp .shr t x y yt,ty,pos,af,g⟩ env [] (.int k c):=fun a w _=>by
 simp [Cm,hx a,hy a,go_sem,shift_shr _ _ _ _ h0 B,hc]
theorem CJ(hx:∀a,ev a env x= .int k m)(hy:∀a,ev a env y= .int k n):OpP P ⟨d,.binOp .eql t x y yt,ty,pos,af,g⟩ env [] (.bool (decide (m=n))):=fun a w _=>by
 simp [Cm,hx a,hy a,go_sem];rfl
theorem GK(hx:∀a,ev a env x= .int k m)(hy:∀a,ev a env y= .int k n):OpP P ⟨d,.binOp .neq t x y yt,ty,pos,af,g⟩ env [] (.bool (decide (m≠n))):=fun a w _=>by
 simp [Cm,hx a,hy a,go_sem,bne];rfl
theorem Dz(hx:∀a,ev a env x= .int k m)(hy:∀a,ev a env y= .int k n):OpP P ⟨d,.binOp .lss t x y yt,ty,pos,af,g⟩ env [] (.bool (decide (m<n))):=fun a w _=>by
 simp [Cm,hx a,hy a,go_sem]
theorem N9(hx:∀a,ev a env x= .int k m)(hy:∀a,ev a env y= .int k n):OpP P ⟨d,.binOp .leq t x y yt,ty,pos,af,g⟩ env [] (.bool (decide (m<=n))):=fun a w _=>by
 simp [Cm,hx a,hy a,go_sem]
theorem Ev(hx:∀a,ev a env x= .int k m)(hy:∀a,ev a env y= .int k n):OpP P ⟨d,.binOp .gtr t x y yt,ty,pos,af,g⟩ env [] (.bool (decide (n<m))):=fun a w _=>by
 simp [Cm,hx a,hy a,go_sem]
theorem IL(hx:∀a,ev a env x= .int k m)(hy:∀a,ev a env y= .int k n):OpP P ⟨d,.binOp .geq t x y yt,ty,pos,af,g⟩ env [] (.bool (decide (n<=m))):=fun a w _=>by
 simp [Cm,hx a,hy a,go_sem]
theorem iZ(hx:∀a,ev a env x= .int k m)(hc:k.wrap (0 -m)=c):OpP P ⟨d,.unOp .neg t x,ty,pos,af,g⟩ env [] (.int k c):=fun a w _=>by
 simp [WK,hx a,Op.unary,Op.intArith]at hc⊢;exact hc
theorem xj(hx:∀a,ev a env x= .int k m)(hc:bits .xor k (if k.signed then-1 else k.max) m=c):OpP P ⟨d,.unOp .xor t x,ty,pos,af,g⟩ env [] (.int k c):=fun a w _=>by
 simp [WK,hx a,Op.unary,go_sem,hc]
theorem Bh{b:Bool}(hx:∀a,ev a env x= .bool b):OpP P ⟨d,.unOp .not t x,ty,pos,af,g⟩ env [] (.bool (!b)):=fun a w _=>by
 simp [WK,hx a,Op.unary]
theorem Cz{p:Prop} [B:Decidable p](hx:∀a,ev a env x= .bool (decide p)):OpP P ⟨d,.unOp .not t x,ty,pos,af,g⟩ env [] (.bool (decide ¬p)):=fun a w _=>by
 simp [WK,hx a,Op.unary]
theorem Eu{s:AK}{B:IntKind}{G:TypeDesc}(I:P.underlying s=some G)(J:P.underlying t=some (.int B))(hx:∀a,ev a env x= .int k m)(hc:B.wrap m=c):OpP P ⟨d,.convert s t x,ty,pos,af,g⟩ env [] (.int B c):=fun a w _=>by
 simp [Jp,hx a,convert,run_underlying I,run_underlying J,Conv.intToInt,hc]
end
theorem EE(n:Nat)(h:n<=9223372036854775807):IntKind.i64.wrap (n:Int)=(n:Int):=IntWalk.i64_in _ A0
section
variable{t yt:AK}{x y:Operand}{m n:Nat}
theorem EW(hx:∀a,ev a env x=I0 (m:Int))(hy:∀a,ev a env y=I0 (n:Int))(B:m+n<=9223372036854775807):OpP P ⟨d,.binOp .add t x y yt,ty,pos,af,g⟩ env [] (I0 ((m+n:Nat):Int)):=
 JX hx hy (by rw [<-Int.natCast_add];exact EE _ B)
theorem CQ(hx:∀a,ev a env x=I0 (m:Int))(hy:∀a,ev a env y=I0 (n:Int))(B:n<=m)(G:m<=9223372036854775807):OpP P ⟨d,.binOp .sub t x y yt,ty,pos,af,g⟩ env [] (I0 ((m -n:Nat):Int)):=
 Gu hx hy (by rw [<-Int.ofNat_sub B];exact EE _ A0)
theorem Ee(hx:∀a,ev a env x=I0 (m:Int))(hy:∀a,ev a env y=I0 (n:Int))(B:m*n<=9223372036854775807):OpP P ⟨d,.binOp .mul t x y yt,ty,pos,af,g⟩ env [] (I0 ((m*n:Nat):Int)):=
 rG hx hy (by rw [<-nw];exact EE _ B)
theorem K5(hx:∀a,ev a env x=I0 (m:Int))(hy:∀a,ev a env y=I0 (n:Int))(h0:0<n)(B:m<=9223372036854775807):OpP P ⟨d,.binOp .quo t x y yt,ty,pos,af,g⟩ env [] (I0 ((m/n:Nat):Int)):=
 rE hx hy A0 (by rw [show((m:Int).tdiv (n:Int))=((m/n:Nat):Int) from by rw [Int.tdiv_eq_ediv_of_nonneg A0];rfl];exact EE _ (On (Nat.div_le_self _ _) B))
theorem Gm(hx:∀a,ev a env x=I0 (m:Int))(hy:∀a,ev a env y=I0 (n:Int))(h0:0<n):OpP P ⟨d,.binOp .rem t x y yt,ty,pos,af,g⟩ env [] (I0 ((m%n:Nat):Int)):=
 zF hx hy A0 (by rw [Int.tmod_eq_emod_of_nonneg A0];rfl)
theorem Ar{k:IntKind}(hx:∀a,ev a env x= .int k (m:Int))(hy:∀a,ev a env y= .int k (n:Int)):OpP P ⟨d,.binOp .lss t x y yt,ty,pos,af,g⟩ env [] (.bool (decide (m<n))):=fun a w h=>by
 have:=Dz (P:=P) (d:=d) (ty:=ty) (pos:=pos) (af:=af) (g:=g) (t:=t) (yt:=yt) hx hy a w h;simpa using this
theorem ku{k:IntKind}(hx:∀a,ev a env x= .int k (m:Int))(hy:∀a,ev a env y= .int k (n:Int)):OpP P ⟨d,.binOp .leq t x y yt,ty,pos,af,g⟩ env [] (.bool (decide (m<=n))):=fun a w h=>by
 have:=N9 (P:=P) (d:=d) (ty:=ty) (pos:=pos) (af:=af) (g:=g) (t:=t) (yt:=yt) hx hy a w h;simpa using this
theorem Df{k:IntKind}(hx:∀a,ev a env x= .int k (m:Int))(hy:∀a,ev a env y= .int k (n:Int)):OpP P ⟨d,.binOp .gtr t x y yt,ty,pos,af,g⟩ env [] (.bool (decide (n<m))):=fun a w h=>by
 have:=Ev (P:=P) (d:=d) (ty:=ty) (pos:=pos) (af:=af) (g:=g) (t:=t) (yt:=yt) hx hy a w h;simpa using this
theorem G8{k:IntKind}(hx:∀a,ev a env x= .int k (m:Int))(hy:∀a,ev a env y= .int k (n:Int)):OpP P ⟨d,.binOp .geq t x y yt,ty,pos,af,g⟩ env [] (.bool (decide (n<=m))):=fun a w h=>by
 have:=IL (P:=P) (d:=d) (ty:=ty) (pos:=pos) (af:=af) (g:=g) (t:=t) (yt:=yt) hx hy a w h;simpa using this
theorem Bl{k:IntKind}(hx:∀a,ev a env x= .int k (m:Int))(hy:∀a,ev a env y= .int k (n:Int)):OpP P ⟨d,.binOp .eql t x y yt,ty,pos,af,g⟩ env [] (.bool (decide (m=n))):=fun a w h=>by
 have:=CJ (P:=P) (d:=d) (ty:=ty) (pos:=pos) (af:=af) (g:=g) (t:=t) (yt:=yt) hx hy a w h;rw [this];simp only [Int.ofNat_inj]
theorem Dr{k:IntKind}(hx:∀a,ev a env x= .int k (m:Int))(hy:∀a,ev a env y= .int k (n:Int)):OpP P ⟨d,.binOp .neq t x y yt,ty,pos,af,g⟩ env [] (.bool (decide (m≠n))):=fun a w h=>by
 have:=GK (P:=P) (d:=d) (ty:=ty) (pos:=pos) (af:=af) (g:=g) (t:=t) (yt:=yt) hx hy a w h;rw [this];simp only [ne_eq,Int.ofNat_inj]
end
section
variable{t yt:AK}{x y:Operand}
theorem VV{s r:C4}(hx:∀a,ev a env x= .string s)(hy:∀a,ev a env y= .string r):OpP P ⟨d,.binOp .eql t x y yt,ty,pos,af,g⟩ env [] (.bool (decide (s=r))):=fun a w _=>by
 simp [Cm,hx a,hy a,go_sem,Xa,Op.stringOp];by_cases h:s=r;· simp [h]
 · simp only [h,dd,beq_eq_false_iff_ne,ne_eq]
   intro e;apply h;cases s;cases r;simpa [ByteArray.toList_eq]using e
theorem kr{s r:C4}(hx:∀a,ev a env x= .string s)(hy:∀a,ev a env y= .string r):OpP P ⟨d,.binOp .neq t x y yt,ty,pos,af,g⟩ env [] (.bool (decide (s≠r))):=fun a w _=>by
 have:=VV (P:=P) (d:=d) (ty:=ty) (pos:=pos) (af:=af) (g:=g) (t:=t) (yt:=yt) hx hy a w B6;simp [Cm,hx a,hy a,go_sem,Xa,Op.stringOp]at this⊢;simp [this]
theorem MV{s r:C4}(hx:∀a,ev a env x= .string s)(hy:∀a,ev a env y= .string r)(B:s.size+r.size<=9223372036854775807):OpP P ⟨d,.binOp .add t x y yt,ty,pos,af,g⟩ env [] (.string (s++r)):=fun a w _=>by
 simp [Cm,hx a,hy a,go_sem,Xa,Op.stringOp];omega
theorem BZ{e:AK}{p:Addr}(B:P.underlying t=some (.pointer e))(hx:∀a,ev a env x= .pointer (some p))(hy:∀a,ev a env y= .pointer none):OpP P ⟨d,.binOp .eql t x y yt,ty,pos,af,g⟩ env [] (.bool false):=fun a w _=>by
 simp [Cm,hx a,hy a,go_sem,Jf,Je,I5,Kh _ B]
theorem DD{e:AK}(B:P.underlying t=some (.pointer e))(hx:∀a,ev a env x= .pointer none)(hy:∀a,ev a env y= .pointer none):OpP P ⟨d,.binOp .eql t x y yt,ty,pos,af,g⟩ env [] (.bool true):=fun a w _=>by
 simp [Cm,hx a,hy a,go_sem,Jf,Je,I5,Kh _ B]
theorem N8{e:AK}{p:Addr}(B:P.underlying t=some (.pointer e))(hx:∀a,ev a env x= .pointer (some p))(hy:∀a,ev a env y= .pointer none):OpP P ⟨d,.binOp .neq t x y yt,ty,pos,af,g⟩ env [] (.bool true):=fun a w _=>by
 simp [Cm,hx a,hy a,go_sem,Jf,Je,I5,Kh _ B]
theorem Jl{e:AK}(B:P.underlying t=some (.pointer e))(hx:∀a,ev a env x= .pointer none)(hy:∀a,ev a env y= .pointer none):OpP P ⟨d,.binOp .neq t x y yt,ty,pos,af,g⟩ env [] (.bool false):=fun a w _=>by
 simp [Cm,hx a,hy a,go_sem,Jf,Je,I5,Kh _ B]
theorem Du{e:AK}{p:B8}{n c:Nat}(B:P.underlying t=some (.slice e))(hx:∀a,ev a env x= .slice p n c)(hy:∀a,ev a env y= .slice none 0 0):OpP P ⟨d,.binOp .eql t x y yt,ty,pos,af,g⟩ env [] (.bool p.isNone):=fun a w _=>by
 simp [Cm,hx a,hy a,go_sem,Ua,I5,XO _ B]
theorem Sj{p q:Bool}(B:P.underlying t=some .bool)(hx:∀a,ev a env x= .bool p)(hy:∀a,ev a env y= .bool q):OpP P ⟨d,.binOp .eql t x y yt,ty,pos,af,g⟩ env [] (.bool (decide (p=q))):=fun a w _=>by
 simp [Cm,hx a,hy a,go_sem,P9,P8,I5,jN _ B];rfl
theorem J7{p q:Bool}(B:P.underlying t=some .bool)(hx:∀a,ev a env x= .bool p)(hy:∀a,ev a env y= .bool q):OpP P ⟨d,.binOp .neq t x y yt,ty,pos,af,g⟩ env [] (.bool (decide (p≠q))):=fun a w _=>by
 simp [Cm,hx a,hy a,go_sem,P9,P8,I5,jN _ B];rfl
end
theorem AR{x:Operand}{T e:AK}{b:B8}{n c:Nat}(B:P.underlying T=some (.slice e))(hx:∀a,ev a env x= .slice b n c):OpP P ⟨d,.call ⟨.builtin .len,#[x],#[T]⟩,ty,pos,af,g⟩ env [] (I0 (n:Int)):=fun a w _=>by
 simp [E8,resolve,invoke,builtin,hx a,Builtin.len_,run_underlying B,goInt]
theorem QT{x:Operand}{T e:AK}{b:B8}{n c:Nat}(B:P.underlying T=some (.slice e))(hx:∀a,ev a env x= .slice b n c):OpP P ⟨d,.call ⟨.builtin .cap,#[x],#[T]⟩,ty,pos,af,g⟩ env [] (I0 (c:Int)):=fun a w _=>by
 simp [E8,resolve,invoke,builtin,hx a,Builtin.cap_,run_underlying B,goInt]
theorem Pt{x:Operand}{T:AK}{s:C4}(B:P.underlying T=some .string)(hx:∀a,ev a env x= .string s):OpP P ⟨d,.call ⟨.builtin .len,#[x],#[T]⟩,ty,pos,af,g⟩ env [] (I0 (s.size:Int)):=fun a w _=>by
 simp [E8,resolve,invoke,builtin,hx a,Builtin.len_,run_underlying B,goInt]
theorem MU{x y:Operand}{Ts:Array AK}{k:IntKind}{m n:Nat}(hx:∀a,ev a env x= .int k (m:Int))(hy:∀a,ev a env y= .int k (n:Int)):OpP P ⟨d,.call ⟨.builtin .min,#[x,y],Ts⟩,ty,pos,af,g⟩ env [] (.int k ((min m n:Nat):Int)):=fun a w _=>by
 simp [E8,resolve,invoke,builtin,hx a,hy a,Builtin.min_,Builtin.min2];by_cases h:n<m;· simp [h,show min m n=n by omega]
 · simp [h,show min m n=m by omega]
theorem AE8{x y:Operand}{Ts:Array AK}{k:IntKind}{m n:Int}(hx:∀a,ev a env x= .int k m)(hy:∀a,ev a env y= .int k n):OpP P ⟨d,.call ⟨.builtin .min,#[x,y],Ts⟩,ty,pos,af,g⟩ env [] (.int k (min m n)):=fun a w _=>by
 simp [E8,resolve,invoke,builtin,hx a,hy a,Builtin.min_,Builtin.min2];by_cases h:n<m;· simp [h,show min m n=n by omega]
 · simp [h,show min m n=m by omega]
section
variable{t e:AK}{x ix:Operand}{b o n cap s:Nat}
theorem Bd{k:IntKind}{j:Nat}(I:P.underlying t=some (.slice e))(G:∀w:A4,(Go.sizeOf e).run P w= .ok 1 w)(hx:∀a,ev a env x=I2 b n cap)(hi:∀a,ev a env ix= .int k (j:Int))(B:j<n):
 OpP P ⟨d,.indexAddr t x ix,ty,pos,af,g⟩ env [] (.pointer (some ⟨b,j,none⟩)):=fun a w _=>by
 simp [IE,hx a,hi a,Instr.indexAt,run_underlying I,asIntOf,G,B,CW]
theorem Bu{k:IntKind}{j:Nat}(I:P.underlying t=some (.slice e))(G:∀w:A4,(Go.sizeOf e).run P w= .ok 1 w)(hx:∀a,ev a env x= .slice (some ⟨b,o,none⟩) n cap)(hi:∀a,ev a env ix= .int k (j:Int))(B:j<n):
 OpP P ⟨d,.indexAddr t x ix,ty,pos,af,g⟩ env [] (.pointer (some ⟨b,o+j,none⟩)):=fun a w _=>by
 simp [IE,hx a,hi a,Instr.indexAt,run_underlying I,asIntOf,G,B,CW]
theorem AZ{k:IntKind}{j:Nat}(I:P.underlying t=some (.slice e))(G:∀w:A4,(Go.sizeOf e).run P w= .ok s w)(hx:∀a,ev a env x= .slice (some ⟨b,o,none⟩) n cap)(hi:∀a,ev a env ix= .int k (j:Int))(B:j<n):
 OpP P ⟨d,.indexAddr t x ix,ty,pos,af,g⟩ env [] (.pointer (some ⟨b,o+j*s,none⟩)):=fun a w _=>by
 simp [IE,hx a,hi a,Instr.indexAt,run_underlying I,asIntOf,G,B,CW]
theorem BK{k:IntKind}{j:Nat}(I:P.underlying t=some (.array n e))(G:∀w:A4,(Go.sizeOf e).run P w= .ok 1 w)(hx:∀a,ev a env x=I1 b)(hi:∀a,ev a env ix= .int k (j:Int))(B:j<n):
 OpP P ⟨d,.indexAddr t x ix,ty,pos,af,g⟩ env [] (.pointer (some ⟨b,j,none⟩)):=fun a w _=>by
 simp [IE,hx a,hi a,Instr.indexAt,run_underlying I,asIntOf,G,B,CW,Instr.sureAddr]
theorem IZ{k:IntKind}{j:Nat}(I:P.underlying t=some (.array n e))(G:∀w:A4,(Go.sizeOf e).run P w= .ok s w)(hx:∀a,ev a env x= .pointer (some ⟨b,o,none⟩))(hi:∀a,ev a env ix= .int k (j:Int))(B:j<n):
 OpP P ⟨d,.indexAddr t x ix,ty,pos,af,g⟩ env [] (.pointer (some ⟨b,o+j*s,none⟩)):=fun a w _=>by
 simp [IE,hx a,hi a,Instr.indexAt,run_underlying I,asIntOf,G,B,CW,Instr.sureAddr]
theorem QS{fs:Array Field}{f:Nat}{fl:Field}{m:Nat}(J:P.underlying t=some (.struct fs))(B:fs[f]?=some fl)(I:∀w:A4,(Go.sizeOf fl.type).run P w= .ok (m+1) w)(hx:∀a,ev a env x= .pointer (some ⟨b,o,none⟩)){q:Nat}(G:o+fl.offset=q):
 OpP P ⟨d,.fieldAddr t x f,ty,pos,af,g⟩ env [] (.pointer (some ⟨b,q,none⟩)):=fun a w _=>by
 simp [Xl,hx a,Instr.fieldAt,run_underlying J,B,Instr.sureAddr,fieldPlace,I,CW,G]
end
section
variable{t e:AK}{x lo hi:Operand}
def Eb(b:B8)(l cap s:Nat):B8:=if cap=l then b else b.map (·.add (l*s))
theorem Bn{b:B8}{n cap h s:Nat}{G:IntKind}(J:P.underlying t=some (.slice e))(I:∀w:A4,(Go.sizeOf e).run P w= .ok s w)(hx:∀a,ev a env x= .slice b n cap)(B:∀a,ev a env hi= .int G (h:Int))(h2:h<=cap):
 OpP P ⟨d,.slice t x none (some hi) none,ty,pos,af,g⟩ env [] (.slice b h cap):=fun a w _=>by
 cases b<;>simp [KN,hx a,B a,Instr.sliceAt,Instr.slice,run_underlying J,Instr.sliceBounds,Instr.sliceBound,asIntOf,h2,I,Addr.add]
theorem Bw{b:B8}{n cap l s:Nat}{K:IntKind}(J:P.underlying t=some (.slice e))(I:∀w:A4,(Go.sizeOf e).run P w= .ok s w)(hx:∀a,ev a env x= .slice b n cap)(G:∀a,ev a env lo= .int K (l:Int))(B:l<=n):
 OpP P ⟨d,.slice t x (some lo) none none,ty,pos,af,g⟩ env [] (.slice (Eb b l cap s) (n -l) (cap -l)):=fun a w _=>by
 simp [KN,hx a,G a,Instr.sliceAt,Instr.slice,run_underlying J,Instr.sliceBounds,Instr.sliceBound,asIntOf,B,I,Eb]
theorem QR{n s:Nat}{cs:AM}{j:Nat}{k:IntKind}{v:A2}(K:P.underlying t=some (.array n e))(B:∀w:A4,(isAgg e).run P w= .ok false w)(J:∀w:A4,(Go.sizeOf e).run P w= .ok s w)(hx:∀a,ev a env x= .agg cs)(I:∀a,ev a env lo= .int k (j:Int))(G:j<n)(hv:cs[j*s]?=some v):
 OpP P ⟨d,.index t x lo,ty,pos,af,g⟩ env [] v:=fun a w _=>by
 simp [wD,hx a,I a,Instr.index,run_underlying K,asIntOf,G,J,part,B,hv]
theorem X4{fs:Array Field}{f:Nat}{fl:Field}{cs:AM}{v:A2}(I:P.underlying t=some (.struct fs))(G:fs[f]?=some fl)(B:∀w:A4,(isAgg fl.type).run P w= .ok false w)(hx:∀a,ev a env x= .agg cs)(hv:cs[fl.offset]?=some v):
 OpP P ⟨d,.field t x f,ty,pos,af,g⟩ env [] v:=fun a w _=>by
 simp [wE,hx a,Instr.field,run_underlying I,G,part,B,asAgg,hv]
end
section
variable{t:AK}{x:Operand}{b i:Nat}{c:AM}{T:AK}{z:Nat×Nat}
theorem BL{v:A2}(B:∀w:A4,(isAgg t).run P w= .ok false w)(hx:∀a,ev a env x= .pointer (some ⟨b,i,none⟩))(hv:c[i]?=some v):OpP P ⟨d,.load t x,ty,pos,af,g⟩ env [(b,.cells c T z)] v:=fun a w h=>by
 have hc:=Cn (h (b,.cells c T z) B6) hv;simp [bC,hx a,Instr.loadAt,Instr.sureAddr,loadVar,B,hc]
theorem AA{n:Nat}{cs:AM}(J:∀w:A4,(isAgg t).run P w= .ok true w)(O:∀w:A4,(Go.sizeOf t).run P w= .ok n w)(hx:∀a,ev a env x= .pointer (some ⟨b,i,none⟩))(hn:i+n<=c.size)(hv:c.extract i (i+n)=cs):OpP P ⟨d,.load t x,ty,pos,af,g⟩ env [(b,.cells c T z)] (.agg cs):=fun a w h=>by
 have K:=h (b,.cells c T z) B6;have I:=run_loadCells_list (P:=P) w ⟨b,i,none⟩ cs.toList (fun j v B=>by
  rw [CW];refine Cn K ?_;rw [<-hv]at B;rw [Hs,eR]at B;split at B;· exact B
  · cases B)
 have G:cs.toList.length=n:=by rw [<-hv];simp;omega
 rw [G]at I;simp [bC,hx a,Instr.loadAt,Instr.sureAddr,loadVar,J,O,I]
end
end
end Gw
