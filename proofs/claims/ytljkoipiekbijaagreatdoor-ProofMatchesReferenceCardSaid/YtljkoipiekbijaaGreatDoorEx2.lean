/- Walking by chunks: what each operation comes to. No function of the program is named. -/
import Derived.Test.YtljkoipiekbijaaGreatDoorEx1
import Derived.WalkLawsBesides
set_option linter.unusedVariables false
set_option linter.unusedSimpArgs false
namespace Gw
open Go Go.RowKit
theorem DL{w:AD}{b i:Nat}{c:As}{T:An}{z:Nat×Nat}{v:A3}(h:w.heap[b]?=some (.cells c T z))(hv:c[i]?=some v):w.cell? ⟨b,i,none⟩=some v:=by
 simp [World.cell?,h,hv]
theorem Cq(b o n:Nat):(⟨b,o,none⟩:Addr).add n=⟨b,o+n,none⟩:=by
 unfold Addr.add;split;· rename_i h;subst h;rfl
 · rfl
section
variable(ρ:Operand->A3)(d:Option Nat)(ty:An)(pos:String)(af:Array Edge)(g:Option (Nat×Bool))
theorem xe(x:Operand):execOp ρ ⟨d,.move x,ty,pos,af,g⟩=pure (.value (ρ x)):=rfl
theorem mg(x:Operand):execOp ρ ⟨d,.assign x,ty,pos,af,g⟩=pure (.value (ρ x)):=rfl
theorem mf(c x y:Operand):execOp ρ ⟨d,.pick c x y,ty,pos,af,g⟩=(do pure (.value (if<-asBool (ρ c)then ρ x else ρ y))):=rfl
theorem uA(t:An):execOp ρ ⟨d,.alloc t,ty,pos,af,g⟩=(do pure (.value (<-Instr.alloc t true (.tuple #[])))):=rfl
theorem zF(t:An)(x:Operand):execOp ρ ⟨d,.box t x,ty,pos,af,g⟩=(do pure (.value (<-Instr.box t (ρ x)))):=rfl
theorem u7(t:An)(ps:Array (Nat×Operand)):execOp ρ ⟨d,.build t ps,ty,pos,af,g⟩=(do pure (.value (<-Instr.build t (ps.map fun(i,x)=>(i,ρ x))))):=rfl
theorem OY(t:An)(n:Nat)(ps:Array (Nat×Operand)):execOp ρ ⟨d,.buildSlice t n ps,ty,pos,af,g⟩=(do pure (.value (<-Instr.buildSlice t n (ps.map fun(i,x)=>(i,ρ x))))):=rfl
theorem ak(t:An)(x:Operand):execOp ρ ⟨d,.load t x,ty,pos,af,g⟩=(do pure (.value (<-Instr.loadAt t (ρ x)))):=rfl
theorem gI(t:An)(x y:Operand):execOp ρ ⟨d,.store t x y,ty,pos,af,g⟩=(do Instr.storeAt t (ρ x) (ρ y);pure .skip):=rfl
theorem D6(E:BinOp)(t:An)(x y:Operand)(yt:An):execOp ρ ⟨d,.binOp E t x y yt,ty,pos,af,g⟩=(do let v<-(do eqGuard E t x y (ρ x) (ρ y);binOp E t (ρ x) (ρ y));pure (.value v)):=rfl
theorem WN(E:UnOp)(t:An)(x:Operand):execOp ρ ⟨d,.unOp E t x,ty,pos,af,g⟩=(do pure (.value (<-Op.unary E (ρ x)))):=rfl
theorem Pk(s t:An)(x:Operand):execOp ρ ⟨d,.convert s t x,ty,pos,af,g⟩=(do pure (.value (<-convert s t (ρ x)))):=rfl
theorem aj(E:Fn)(p q:Array Operand):execOp ρ ⟨d,.makeFunc E p q,ty,pos,af,g⟩=(do pure (.value (<-Instr.makeFunc E (p.map ρ) (q.map ρ)))):=rfl
theorem Xi(t:An)(l c:Operand):execOp ρ ⟨d,.makeSlice t l c,ty,pos,af,g⟩=(do pure (.value (<-Instr.makeSlice t (ρ l) (ρ c)))):=rfl
theorem Iq(t:An)(x:Operand)(lo hi E:Option Operand):execOp ρ ⟨d,.slice t x lo hi E,ty,pos,af,g⟩=(do pure (.value (<-Instr.sliceAt t (ρ x) (lo.map ρ) (hi.map ρ) (E.map ρ)))):=rfl
theorem Xj(t:An)(x:Operand)(f:Nat):execOp ρ ⟨d,.fieldAddr t x f,ty,pos,af,g⟩=(do pure (.value (<-Instr.fieldAt t (ρ x) f))):=rfl
theorem u6(t:An)(x:Operand)(f:Nat):execOp ρ ⟨d,.field t x f,ty,pos,af,g⟩=(do pure (.value (<-Instr.field t (ρ x) f))):=rfl
theorem Iz(t:An)(x i:Operand):execOp ρ ⟨d,.indexAddr t x i,ty,pos,af,g⟩=(do pure (.value (<-Instr.indexAt t (ρ x) (ρ i)))):=rfl
theorem gJ(t:An)(x i:Operand):execOp ρ ⟨d,.index t x i,ty,pos,af,g⟩=(do pure (.value (<-Instr.index t (ρ x) (ρ i)))):=rfl
theorem jI(x:Operand)(i:Nat):execOp ρ ⟨d,.extract x i,ty,pos,af,g⟩=(do pure (.value (<-Instr.extract (ρ x) i))):=rfl
theorem EU(c:Call):execOp ρ ⟨d,.call c,ty,pos,af,g⟩=(do let e<-resolve ρ c ty;invoke e.target e.args):=rfl
theorem tu(x:Operand):execOp ρ ⟨d,.panic x,ty,pos,af,g⟩=(do pure (.value (<-Instr.panic (ρ x)))):=rfl
theorem Rf(x:Operand):execOp ρ ⟨d,.nilCheck x,ty,pos,af,g⟩=(match ρ x with
 | .pointer none| .nilIface| .nilFunc=>runtimePanic .nilDeref
 | .func (.method name) first captured=>
   match(first[0]?:Option A3)with
   |some .nilIface=>runtimePanic .nilDeref
   |some (.iface t w)=>do
    if(<-nilAhead ((<-program).types.size+Made.depth) t w name)!=some false then
     unsupported (.noEntry "op/nilCheck.the method's receiver behind this interface value is a nil pointer, or cannot be seen to be none, and the arguments act or may panic (ledger 612)")
    pure (.value (.func (.method name) first captured))
   |_=>pure (.value (.func (.method name) first captured))
 |x=>pure (.value x)):=rfl
end
theorem Il(t:An)(x y:A3):Op.equal t x y=Op.equalIn (9999+1) t x y:=rfl
section
variable{P:Program}(w:AD){n:Nat}{t e:An}
theorem Lt{p:C1}(E:P.underlying t=some (.pointer e)):(Op.equalIn (n+1) t (.pointer p) (.pointer none)).run P w= .ok p.isNone w:=by
 cases p<;>simp [Op.equalIn,run_underlying E]
theorem XN{p:C1}{a b:Nat}(E:P.underlying t=some (.slice e)):(Op.equalIn (n+1) t (.slice p a b) (.slice none 0 0)).run P w= .ok p.isNone w:=by
 cases p<;>simp [Op.equalIn,run_underlying E]
theorem iy{p q:Bool}(E:P.underlying t=some .bool):(Op.equalIn (n+1) t (.bool p) (.bool q)).run P w= .ok (p==q) w:=by
 simp [Op.equalIn,run_underlying E]
theorem Kc(p q:C1):binOp .eql t (.pointer p) (.pointer q)=(do pure (.bool (<-Op.equal t (.pointer p) (.pointer q)))):=by cases p<;>cases q<;>rfl
theorem Kb(p q:C1):binOp .neq t (.pointer p) (.pointer q)=(do pure (.bool (!(<-Op.equal t (.pointer p) (.pointer q))))):=by cases p<;>cases q<;>rfl
theorem UX(p q:C1)(a b c d:Nat):binOp .eql t (.slice p a b) (.slice q c d)=(do pure (.bool (<-Op.equal t (.slice p a b) (.slice q c d)))):=rfl
theorem Ph(p q:Bool):binOp .eql t (.bool p) (.bool q)=(do pure (.bool (<-Op.equal t (.bool p) (.bool q)))):=rfl
theorem Pg(p q:Bool):binOp .neq t (.bool p) (.bool q)=(do pure (.bool (!(<-Op.equal t (.bool p) (.bool q))))):=rfl
theorem XX(E:BinOp)(s r:ByteArray):binOp E t (.string s) (.string r)=Op.stringOp E s r:=by cases E<;>rfl
end
section
variable{P:Program}{env:Env}{d:Option Nat}{ty:An}{pos:String}{af:Array Edge}{g:Option (Nat×Bool)}
theorem AA{x:Operand}{v:A3}(h:∀a,ev a env x=v):OpP P ⟨d,.move x,ty,pos,af,g⟩ env [] v:=fun a w _=>by simp [xe,h a]
theorem Aq{x:Operand}{v:A3}(h:∀a,ev a env x=v):OpP P ⟨d,.assign x,ty,pos,af,g⟩ env [] v:=fun a w _=>by simp [mg,h a]
theorem Ay{c x y:Operand}{v:A3}(hc:∀a,ev a env c= .bool true)(h:∀a,ev a env x=v):OpP P ⟨d,.pick c x y,ty,pos,af,g⟩ env [] v:=fun a w _=>by simp [mf,hc a,h a,asBool]
theorem BC{c x y:Operand}{v:A3}(hc:∀a,ev a env c= .bool false)(h:∀a,ev a env y=v):OpP P ⟨d,.pick c x y,ty,pos,af,g⟩ env [] v:=fun a w _=>by simp [mf,hc a,h a,asBool]
theorem dX{x:Operand}{p:Addr}(h:∀a,ev a env x= .pointer (some p)):OpP P ⟨d,.nilCheck x,ty,pos,af,g⟩ env [] (.pointer (some p)):=fun a w _=>by simp [Rf,h a]
theorem QK{x:Operand}{t:An}{v:A3}(h:∀a,ev a env x= .iface t v):OpP P ⟨d,.nilCheck x,ty,pos,af,g⟩ env [] (.iface t v):=fun a w _=>by simp [Rf,h a]
def qB:A3->Bool
 | .pointer (some _)=>true
 | .iface _ _=>true
 |_=>false
theorem EY{x:Operand}{v:A3}(h:∀a,ev a env x=v)(hv:qB v=true):OpP P ⟨d,.nilCheck x,ty,pos,af,g⟩ env [] v:=by
 unfold qB at hv;split at hv;· exact dX h
 · exact QK h
 · cases hv
theorem Bn{x:Operand}{i:Nat}{vs:As}{v:A3}(h:∀a,ev a env x= .tuple vs)(hv:vs[i]?=some v):OpP P ⟨d,.extract x i,ty,pos,af,g⟩ env [] v:=fun a w _=>by simp [jI,h a,Instr.extract,hv]
section
variable{t yt:An}{x y:Operand}{k:IntKind}{m n c:Int}
theorem Fw(hx:∀a,ev a env x= .int k m)(hy:∀a,ev a env y= .int k n)(hc:k.wrap (m+n)=c):OpP P ⟨d,.binOp .add t x y yt,ty,pos,af,g⟩ env [] (.int k c):=fun a w _=>by
 simp [D6,hx a,hy a,go_sem,hc]
theorem GI(hx:∀a,ev a env x= .int k m)(hy:∀a,ev a env y= .int k n)(hc:k.wrap (m -n)=c):OpP P ⟨d,.binOp .sub t x y yt,ty,pos,af,g⟩ env [] (.int k c):=fun a w _=>by
 simp [D6,hx a,hy a,go_sem,hc]
theorem Yh(hx:∀a,ev a env x= .int k m)(hy:∀a,ev a env y= .int k n)(hc:k.wrap (m*n)=c):OpP P ⟨d,.binOp .mul t x y yt,ty,pos,af,g⟩ env [] (.int k c):=fun a w _=>by
 simp [D6,hx a,hy a,go_sem,hc]
theorem Ve(hx:∀a,ev a env x= .int k m)(hy:∀a,ev a env y= .int k n)(h0:n≠0)(hc:k.wrap (m.tdiv n)=c):OpP P ⟨d,.binOp .quo t x y yt,ty,pos,af,g⟩ env [] (.int k c):=fun a w _=>by
 simp [D6,hx a,hy a,go_sem,hc,h0]
theorem Me(hx:∀a,ev a env x= .int k m)(hy:∀a,ev a env y= .int k n)(h0:n≠0)(hc:m.tmod n=c):OpP P ⟨d,.binOp .rem t x y yt,ty,pos,af,g⟩ env [] (.int k c):=fun a w _=>by
 simp [D6,hx a,hy a,go_sem,hc,h0]
theorem pG(hx:∀a,ev a env x= .int k m)(hy:∀a,ev a env y= .int k n)(hc:bits .and k m n=c):OpP P ⟨d,.binOp .and t x y yt,ty,pos,af,g⟩ env [] (.int k c):=fun a w _=>by
 simp [D6,hx a,hy a,go_sem,hc]
theorem mu(hx:∀a,ev a env x= .int k m)(hy:∀a,ev a env y= .int k n)(hc:bits .or k m n=c):OpP P ⟨d,.binOp .or t x y yt,ty,pos,af,g⟩ env [] (.int k c):=fun a w _=>by
 simp [D6,hx a,hy a,go_sem,hc]
theorem xA(hx:∀a,ev a env x= .int k m)(hy:∀a,ev a env y= .int k n)(hc:bits .xor k m n=c):OpP P ⟨d,.binOp .xor t x y yt,ty,pos,af,g⟩ env [] (.int k c):=fun a w _=>by
 simp [D6,hx a,hy a,go_sem,hc]
theorem iH{G:IntKind}(hx:∀a,ev a env x= .int k m)(hy:∀a,ev a env y= .int G n)(h0:0<=n)(E:n<=k.bits)(hc:k.wrap (m*2^n.toNat)=c):OpP P ⟨d,.binOp .shl t x y yt,ty,pos,af,g⟩ env [] (.int k c):=fun a w _=>by
 simp [D6,hx a,hy a,go_sem,shift_shl _ _ _ _ h0 E,hc]
theorem oz{G:IntKind}(hx:∀a,ev a env x= .int k m)(hy:∀a,ev a env y= .int G n)(h0:0<=n)(E:n<=k.bits)(hc:m/2^n.toNat=c):OpP P ⟨d,.binOp .shr t x y yt,ty,pos,af,g⟩ env [] (.int k c):=fun a w _=>by
 simp [D6,hx a,hy a,go_sem,shift_shr _ _ _ _ h0 E,hc]
theorem Bd(hx:∀a,ev a env x= .int k m)(hy:∀a,ev a env y= .int k n):OpP P ⟨d,.binOp .eql t x y yt,ty,pos,af,g⟩ env [] (.bool (decide (m=n))):=fun a w _=>by
 simp [D6,hx a,hy a,go_sem];rfl
theorem ED(hx:∀a,ev a env x= .int k m)(hy:∀a,ev a env y= .int k n):OpP P ⟨d,.binOp .neq t x y yt,ty,pos,af,g⟩ env [] (.bool (decide (m≠n))):=fun a w _=>by
 simp [D6,hx a,hy a,go_sem,bne];rfl
theorem Dq(hx:∀a,ev a env x= .int k m)(hy:∀a,ev a env y= .int k n):OpP P ⟨d,.binOp .lss t x y yt,ty,pos,af,g⟩ env [] (.bool (decide (m<n))):=fun a w _=>by
 simp [D6,hx a,hy a,go_sem]
theorem JB(hx:∀a,ev a env x= .int k m)(hy:∀a,ev a env y= .int k n):OpP P ⟨d,.binOp .leq t x y yt,ty,pos,af,g⟩ env [] (.bool (decide (m<=n))):=fun a w _=>by
 simp [D6,hx a,hy a,go_sem]
theorem EE(hx:∀a,ev a env x= .int k m)(hy:∀a,ev a env y= .int k n):OpP P ⟨d,.binOp .gtr t x y yt,ty,pos,af,g⟩ env [] (.bool (decide (n<m))):=fun a w _=>by
 simp [D6,hx a,hy a,go_sem]
theorem Fa(hx:∀a,ev a env x= .int k m)(hy:∀a,ev a env y= .int k n):OpP P ⟨d,.binOp .geq t x y yt,ty,pos,af,g⟩ env [] (.bool (decide (n<=m))):=fun a w _=>by
 simp [D6,hx a,hy a,go_sem]
theorem TA(hx:∀a,ev a env x= .int k m)(hc:k.wrap (0 -m)=c):OpP P ⟨d,.unOp .neg t x,ty,pos,af,g⟩ env [] (.int k c):=fun a w _=>by
 simp [WN,hx a,Op.unary,Op.intArith]at hc⊢;exact hc
theorem oS(hx:∀a,ev a env x= .int k m)(hc:bits .xor k (if k.signed then-1 else k.max) m=c):OpP P ⟨d,.unOp .xor t x,ty,pos,af,g⟩ env [] (.int k c):=fun a w _=>by
 simp [WN,hx a,Op.unary,go_sem,hc]
theorem CR{b:Bool}(hx:∀a,ev a env x= .bool b):OpP P ⟨d,.unOp .not t x,ty,pos,af,g⟩ env [] (.bool (!b)):=fun a w _=>by
 simp [WN,hx a,Op.unary]
theorem Bp{p:Prop} [E:Decidable p](hx:∀a,ev a env x= .bool (decide p)):OpP P ⟨d,.unOp .not t x,ty,pos,af,g⟩ env [] (.bool (decide ¬p)):=fun a w _=>by
 simp [WN,hx a,Op.unary]
theorem FB{s:An}{E:IntKind}{G:TypeDesc}(I:P.underlying s=some G)(J:P.underlying t=some (.int E))(hx:∀a,ev a env x= .int k m)(hc:E.wrap m=c):OpP P ⟨d,.convert s t x,ty,pos,af,g⟩ env [] (.int E c):=fun a w _=>by
 simp [Pk,hx a,convert,run_underlying I,run_underlying J,Conv.intToInt,hc]
end
theorem Fe(n:Nat)(h:n<=9223372036854775807):IntKind.i64.wrap (n:Int)=(n:Int):=IntWalk.i64_in _ A0
section
variable{t yt:An}{x y:Operand}{m n:Nat}
theorem Ce(hx:∀a,ev a env x=I4 (m:Int))(hy:∀a,ev a env y=I4 (n:Int))(E:m+n<=9223372036854775807):OpP P ⟨d,.binOp .add t x y yt,ty,pos,af,g⟩ env [] (I4 ((m+n:Nat):Int)):=
 Fw hx hy (by rw [<-Int.natCast_add];exact Fe _ E)
theorem C8(hx:∀a,ev a env x=I4 (m:Int))(hy:∀a,ev a env y=I4 (n:Int))(E:n<=m)(G:m<=9223372036854775807):OpP P ⟨d,.binOp .sub t x y yt,ty,pos,af,g⟩ env [] (I4 ((m -n:Nat):Int)):=
 GI hx hy (by rw [<-Int.ofNat_sub E];exact Fe _ A0)
theorem Dl(hx:∀a,ev a env x=I4 (m:Int))(hy:∀a,ev a env y=I4 (n:Int))(E:m*n<=9223372036854775807):OpP P ⟨d,.binOp .mul t x y yt,ty,pos,af,g⟩ env [] (I4 ((m*n:Nat):Int)):=
 Yh hx hy (by rw [<-kA];exact Fe _ E)
theorem L6(hx:∀a,ev a env x=I4 (m:Int))(hy:∀a,ev a env y=I4 (n:Int))(h0:0<n)(E:m<=9223372036854775807):OpP P ⟨d,.binOp .quo t x y yt,ty,pos,af,g⟩ env [] (I4 ((m/n:Nat):Int)):=
 Ve hx hy A0 (by rw [show((m:Int).tdiv (n:Int))=((m/n:Nat):Int) from by rw [oA A0];rfl];exact Fe _ (To (Nat.div_le_self _ _) E))
theorem Gm(hx:∀a,ev a env x=I4 (m:Int))(hy:∀a,ev a env y=I4 (n:Int))(h0:0<n):OpP P ⟨d,.binOp .rem t x y yt,ty,pos,af,g⟩ env [] (I4 ((m%n:Nat):Int)):=
 Me hx hy A0 (by rw [oB A0];rfl)
theorem Ak{k:IntKind}(hx:∀a,ev a env x= .int k (m:Int))(hy:∀a,ev a env y= .int k (n:Int)):OpP P ⟨d,.binOp .lss t x y yt,ty,pos,af,g⟩ env [] (.bool (decide (m<n))):=fun a w h=>by
 have:=Dq (P:=P) (d:=d) (ty:=ty) (pos:=pos) (af:=af) (g:=g) (t:=t) (yt:=yt) hx hy a w h;simpa using this
theorem Vf{k:IntKind}(hx:∀a,ev a env x= .int k (m:Int))(hy:∀a,ev a env y= .int k (n:Int)):OpP P ⟨d,.binOp .leq t x y yt,ty,pos,af,g⟩ env [] (.bool (decide (m<=n))):=fun a w h=>by
 have:=JB (P:=P) (d:=d) (ty:=ty) (pos:=pos) (af:=af) (g:=g) (t:=t) (yt:=yt) hx hy a w h;simpa using this
theorem CW{k:IntKind}(hx:∀a,ev a env x= .int k (m:Int))(hy:∀a,ev a env y= .int k (n:Int)):OpP P ⟨d,.binOp .gtr t x y yt,ty,pos,af,g⟩ env [] (.bool (decide (n<m))):=fun a w h=>by
 have:=EE (P:=P) (d:=d) (ty:=ty) (pos:=pos) (af:=af) (g:=g) (t:=t) (yt:=yt) hx hy a w h;simpa using this
theorem El{k:IntKind}(hx:∀a,ev a env x= .int k (m:Int))(hy:∀a,ev a env y= .int k (n:Int)):OpP P ⟨d,.binOp .geq t x y yt,ty,pos,af,g⟩ env [] (.bool (decide (n<=m))):=fun a w h=>by
 have:=Fa (P:=P) (d:=d) (ty:=ty) (pos:=pos) (af:=af) (g:=g) (t:=t) (yt:=yt) hx hy a w h;simpa using this
theorem Bg{k:IntKind}(hx:∀a,ev a env x= .int k (m:Int))(hy:∀a,ev a env y= .int k (n:Int)):OpP P ⟨d,.binOp .eql t x y yt,ty,pos,af,g⟩ env [] (.bool (decide (m=n))):=fun a w h=>by
 have:=Bd (P:=P) (d:=d) (ty:=ty) (pos:=pos) (af:=af) (g:=g) (t:=t) (yt:=yt) hx hy a w h;rw [this];simp only [Int.ofNat_inj]
theorem Cb{k:IntKind}(hx:∀a,ev a env x= .int k (m:Int))(hy:∀a,ev a env y= .int k (n:Int)):OpP P ⟨d,.binOp .neq t x y yt,ty,pos,af,g⟩ env [] (.bool (decide (m≠n))):=fun a w h=>by
 have:=ED (P:=P) (d:=d) (ty:=ty) (pos:=pos) (af:=af) (g:=g) (t:=t) (yt:=yt) hx hy a w h;rw [this];simp only [ne_eq,Int.ofNat_inj]
end
section
variable{t yt:An}{x y:Operand}
theorem L9{s r:ByteArray}(hx:∀a,ev a env x= .string s)(hy:∀a,ev a env y= .string r):OpP P ⟨d,.binOp .eql t x y yt,ty,pos,af,g⟩ env [] (.bool (decide (s=r))):=fun a w _=>by
 simp [D6,hx a,hy a,go_sem,XX,Op.stringOp];by_cases h:s=r;· simp [h]
 · simp only [h,eC,beq_eq_false_iff_ne,ne_eq]
   intro e;apply h;cases s;cases r;simpa [ByteArray.toList_eq]using e
theorem Jq{s r:ByteArray}(hx:∀a,ev a env x= .string s)(hy:∀a,ev a env y= .string r):OpP P ⟨d,.binOp .neq t x y yt,ty,pos,af,g⟩ env [] (.bool (decide (s≠r))):=fun a w _=>by
 have:=L9 (P:=P) (d:=d) (ty:=ty) (pos:=pos) (af:=af) (g:=g) (t:=t) (yt:=yt) hx hy a w C4;simp [D6,hx a,hy a,go_sem,XX,Op.stringOp]at this⊢;simp [this]
theorem EH{s r:ByteArray}(hx:∀a,ev a env x= .string s)(hy:∀a,ev a env y= .string r)(E:s.size+r.size<=9223372036854775807):OpP P ⟨d,.binOp .add t x y yt,ty,pos,af,g⟩ env [] (.string (s++r)):=fun a w _=>by
 simp [D6,hx a,hy a,go_sem,XX,Op.stringOp];omega
theorem G9{e:An}{p:Addr}(E:P.underlying t=some (.pointer e))(hx:∀a,ev a env x= .pointer (some p))(hy:∀a,ev a env y= .pointer none):OpP P ⟨d,.binOp .eql t x y yt,ty,pos,af,g⟩ env [] (.bool false):=fun a w _=>by
 simp [D6,hx a,hy a,go_sem,Kc,Kb,Il,Lt _ E]
theorem UL{e:An}(E:P.underlying t=some (.pointer e))(hx:∀a,ev a env x= .pointer none)(hy:∀a,ev a env y= .pointer none):OpP P ⟨d,.binOp .eql t x y yt,ty,pos,af,g⟩ env [] (.bool true):=fun a w _=>by
 simp [D6,hx a,hy a,go_sem,Kc,Kb,Il,Lt _ E]
theorem UJ{e:An}{p:Addr}(E:P.underlying t=some (.pointer e))(hx:∀a,ev a env x= .pointer (some p))(hy:∀a,ev a env y= .pointer none):OpP P ⟨d,.binOp .neq t x y yt,ty,pos,af,g⟩ env [] (.bool true):=fun a w _=>by
 simp [D6,hx a,hy a,go_sem,Kc,Kb,Il,Lt _ E]
theorem UK{e:An}(E:P.underlying t=some (.pointer e))(hx:∀a,ev a env x= .pointer none)(hy:∀a,ev a env y= .pointer none):OpP P ⟨d,.binOp .neq t x y yt,ty,pos,af,g⟩ env [] (.bool false):=fun a w _=>by
 simp [D6,hx a,hy a,go_sem,Kc,Kb,Il,Lt _ E]
theorem HV{e:An}{p:C1}{n c:Nat}(E:P.underlying t=some (.slice e))(hx:∀a,ev a env x= .slice p n c)(hy:∀a,ev a env y= .slice none 0 0):OpP P ⟨d,.binOp .eql t x y yt,ty,pos,af,g⟩ env [] (.bool p.isNone):=fun a w _=>by
 simp [D6,hx a,hy a,go_sem,UX,Il,XN _ E]
theorem Ih{p q:Bool}(E:P.underlying t=some .bool)(hx:∀a,ev a env x= .bool p)(hy:∀a,ev a env y= .bool q):OpP P ⟨d,.binOp .eql t x y yt,ty,pos,af,g⟩ env [] (.bool (decide (p=q))):=fun a w _=>by
 simp [D6,hx a,hy a,go_sem,Ph,Pg,Il,iy _ E];rfl
theorem Ho{p q:Bool}(E:P.underlying t=some .bool)(hx:∀a,ev a env x= .bool p)(hy:∀a,ev a env y= .bool q):OpP P ⟨d,.binOp .neq t x y yt,ty,pos,af,g⟩ env [] (.bool (decide (p≠q))):=fun a w _=>by
 simp [D6,hx a,hy a,go_sem,Ph,Pg,Il,iy _ E];rfl
end
theorem AJ{x:Operand}{T e:An}{b:C1}{n c:Nat}(E:P.underlying T=some (.slice e))(hx:∀a,ev a env x= .slice b n c):OpP P ⟨d,.call ⟨.builtin .len,#[x],#[T]⟩,ty,pos,af,g⟩ env [] (I4 (n:Int)):=fun a w _=>by
 simp [EU,resolve,invoke,builtin,hx a,Builtin.len_,run_underlying E,goInt]
theorem Qz{x:Operand}{T e:An}{b:C1}{n c:Nat}(E:P.underlying T=some (.slice e))(hx:∀a,ev a env x= .slice b n c):OpP P ⟨d,.call ⟨.builtin .cap,#[x],#[T]⟩,ty,pos,af,g⟩ env [] (I4 (c:Int)):=fun a w _=>by
 simp [EU,resolve,invoke,builtin,hx a,Builtin.cap_,run_underlying E,goInt]
theorem Da{x:Operand}{T:An}{s:ByteArray}(E:P.underlying T=some .string)(hx:∀a,ev a env x= .string s):OpP P ⟨d,.call ⟨.builtin .len,#[x],#[T]⟩,ty,pos,af,g⟩ env [] (I4 (s.size:Int)):=fun a w _=>by
 simp [EU,resolve,invoke,builtin,hx a,Builtin.len_,run_underlying E,goInt]
theorem L8{x y:Operand}{Ts:Array An}{k:IntKind}{m n:Nat}(hx:∀a,ev a env x= .int k (m:Int))(hy:∀a,ev a env y= .int k (n:Int)):OpP P ⟨d,.call ⟨.builtin .min,#[x,y],Ts⟩,ty,pos,af,g⟩ env [] (.int k ((min m n:Nat):Int)):=fun a w _=>by
 simp [EU,resolve,invoke,builtin,hx a,hy a,Builtin.min_,Builtin.min2];by_cases h:n<m;· simp [h,show min m n=n by omega]
 · simp [h,show min m n=m by omega]
theorem zD{x y:Operand}{Ts:Array An}{k:IntKind}{m n:Int}(hx:∀a,ev a env x= .int k m)(hy:∀a,ev a env y= .int k n):OpP P ⟨d,.call ⟨.builtin .min,#[x,y],Ts⟩,ty,pos,af,g⟩ env [] (.int k (min m n)):=fun a w _=>by
 simp [EU,resolve,invoke,builtin,hx a,hy a,Builtin.min_,Builtin.min2];by_cases h:n<m;· simp [h,show min m n=n by omega]
 · simp [h,show min m n=m by omega]
section
variable{t e:An}{x ix:Operand}{b o n cap s:Nat}
theorem BI{k:IntKind}{j:Nat}(I:P.underlying t=some (.slice e))(G:∀w:AD,(Go.sizeOf e).run P w= .ok 1 w)(hx:∀a,ev a env x=I6 b n cap)(hi:∀a,ev a env ix= .int k (j:Int))(E:j<n):
 OpP P ⟨d,.indexAddr t x ix,ty,pos,af,g⟩ env [] (.pointer (some ⟨b,j,none⟩)):=fun a w _=>by
 simp [Iz,hx a,hi a,Instr.indexAt,run_underlying I,asIntOf,G,E,Cq]
theorem BO{k:IntKind}{j:Nat}(I:P.underlying t=some (.slice e))(G:∀w:AD,(Go.sizeOf e).run P w= .ok 1 w)(hx:∀a,ev a env x= .slice (some ⟨b,o,none⟩) n cap)(hi:∀a,ev a env ix= .int k (j:Int))(E:j<n):
 OpP P ⟨d,.indexAddr t x ix,ty,pos,af,g⟩ env [] (.pointer (some ⟨b,o+j,none⟩)):=fun a w _=>by
 simp [Iz,hx a,hi a,Instr.indexAt,run_underlying I,asIntOf,G,E,Cq]
theorem A9{k:IntKind}{j:Nat}(I:P.underlying t=some (.slice e))(G:∀w:AD,(Go.sizeOf e).run P w= .ok s w)(hx:∀a,ev a env x= .slice (some ⟨b,o,none⟩) n cap)(hi:∀a,ev a env ix= .int k (j:Int))(E:j<n):
 OpP P ⟨d,.indexAddr t x ix,ty,pos,af,g⟩ env [] (.pointer (some ⟨b,o+j*s,none⟩)):=fun a w _=>by
 simp [Iz,hx a,hi a,Instr.indexAt,run_underlying I,asIntOf,G,E,Cq]
theorem Ap{k:IntKind}{j:Nat}(I:P.underlying t=some (.array n e))(G:∀w:AD,(Go.sizeOf e).run P w= .ok 1 w)(hx:∀a,ev a env x=I5 b)(hi:∀a,ev a env ix= .int k (j:Int))(E:j<n):
 OpP P ⟨d,.indexAddr t x ix,ty,pos,af,g⟩ env [] (.pointer (some ⟨b,j,none⟩)):=fun a w _=>by
 simp [Iz,hx a,hi a,Instr.indexAt,run_underlying I,asIntOf,G,E,Cq,Instr.sureAddr]
theorem Cf{k:IntKind}{j:Nat}(I:P.underlying t=some (.array n e))(G:∀w:AD,(Go.sizeOf e).run P w= .ok s w)(hx:∀a,ev a env x= .pointer (some ⟨b,o,none⟩))(hi:∀a,ev a env ix= .int k (j:Int))(E:j<n):
 OpP P ⟨d,.indexAddr t x ix,ty,pos,af,g⟩ env [] (.pointer (some ⟨b,o+j*s,none⟩)):=fun a w _=>by
 simp [Iz,hx a,hi a,Instr.indexAt,run_underlying I,asIntOf,G,E,Cq,Instr.sureAddr]
theorem Qx{fs:Array Field}{f:Nat}{fl:Field}{m:Nat}(J:P.underlying t=some (.struct fs))(E:fs[f]?=some fl)(I:∀w:AD,(Go.sizeOf fl.type).run P w= .ok (m+1) w)(hx:∀a,ev a env x= .pointer (some ⟨b,o,none⟩)){q:Nat}(G:o+fl.offset=q):
 OpP P ⟨d,.fieldAddr t x f,ty,pos,af,g⟩ env [] (.pointer (some ⟨b,q,none⟩)):=fun a w _=>by
 simp [Xj,hx a,Instr.fieldAt,run_underlying J,E,Instr.sureAddr,fieldPlace,I,Cq,G]
end
section
variable{t e:An}{x lo hi:Operand}
theorem Md{s:ByteArray}{h:Nat}{G:IntKind}(I:P.underlying t=some .string)(hx:∀a,ev a env x= .string s)(E:∀a,ev a env hi= .int G (h:Int))(h2:h<=s.size):
 OpP P ⟨d,.slice t x none (some hi) none,ty,pos,af,g⟩ env [] (.string (s.extract 0 h)):=fun a w _=>by
 simp [Iq,hx a,E a,Instr.sliceAt,Instr.slice,run_underlying I,Instr.sliceBounds,Instr.sliceBound,asIntOf,h2]
theorem Kz{s:ByteArray}{l:Nat}{J:IntKind}(I:P.underlying t=some .string)(hx:∀a,ev a env x= .string s)(G:∀a,ev a env lo= .int J (l:Int))(E:l<=s.size):
 OpP P ⟨d,.slice t x (some lo) none none,ty,pos,af,g⟩ env [] (.string (s.extract l s.size)):=fun a w _=>by
 simp [Iq,hx a,G a,Instr.sliceAt,Instr.slice,run_underlying I,Instr.sliceBounds,Instr.sliceBound,asIntOf,E]
def EJ(b:C1)(l cap s:Nat):C1:=if cap=l then b else b.map (·.add (l*s))
theorem Ir{b:C1}{n cap l h s:Nat}{O I:IntKind}(M:P.underlying t=some (.slice e))(K:∀w:AD,(Go.sizeOf e).run P w= .ok s w)(hx:∀a,ev a env x= .slice b n cap)(J:∀a,ev a env lo= .int O (l:Int))(G:∀a,ev a env hi= .int I (h:Int))(E:l<=h)(h2:h<=cap):
 OpP P ⟨d,.slice t x (some lo) (some hi) none,ty,pos,af,g⟩ env [] (.slice (EJ b l cap s) (h -l) (cap -l)):=fun a w _=>by
 simp [Iq,hx a,J a,G a,Instr.sliceAt,Instr.slice,run_underlying M,Instr.sliceBounds,Instr.sliceBound,asIntOf,E,h2,K,EJ]
theorem Bb{b:C1}{n cap h s:Nat}{G:IntKind}(J:P.underlying t=some (.slice e))(I:∀w:AD,(Go.sizeOf e).run P w= .ok s w)(hx:∀a,ev a env x= .slice b n cap)(E:∀a,ev a env hi= .int G (h:Int))(h2:h<=cap):
 OpP P ⟨d,.slice t x none (some hi) none,ty,pos,af,g⟩ env [] (.slice b h cap):=fun a w _=>by
 cases b<;>simp [Iq,hx a,E a,Instr.sliceAt,Instr.slice,run_underlying J,Instr.sliceBounds,Instr.sliceBound,asIntOf,h2,I,Addr.add]
theorem Bv{b:C1}{n cap l s:Nat}{K:IntKind}(J:P.underlying t=some (.slice e))(I:∀w:AD,(Go.sizeOf e).run P w= .ok s w)(hx:∀a,ev a env x= .slice b n cap)(G:∀a,ev a env lo= .int K (l:Int))(E:l<=n):
 OpP P ⟨d,.slice t x (some lo) none none,ty,pos,af,g⟩ env [] (.slice (EJ b l cap s) (n -l) (cap -l)):=fun a w _=>by
 simp [Iq,hx a,G a,Instr.sliceAt,Instr.slice,run_underlying J,Instr.sliceBounds,Instr.sliceBound,asIntOf,E,I,EJ]
theorem Yj{s:ByteArray}{j:Nat}{k:IntKind}{c:UInt8}(I:P.underlying t=some .string)(hx:∀a,ev a env x= .string s)(G:∀a,ev a env lo= .int k (j:Int))(hc:s.data[j]?=some c):
 OpP P ⟨d,.index t x lo,ty,pos,af,g⟩ env [] (.int .u8 (c.toNat:Int)):=fun a w _=>by
 have:s[j]?=some c:=by
  obtain ⟨E,h2⟩:=LO.1 hc;rw [getElem?_pos s j (by exact E)];exact congrArg some h2
 simp [gJ,hx a,G a,Instr.index,run_underlying I,asIntOf,this]
theorem Qw{n s:Nat}{cs:As}{j:Nat}{k:IntKind}{v:A3}(K:P.underlying t=some (.array n e))(E:∀w:AD,(isAgg e).run P w= .ok false w)(J:∀w:AD,(Go.sizeOf e).run P w= .ok s w)(hx:∀a,ev a env x= .agg cs)(I:∀a,ev a env lo= .int k (j:Int))(G:j<n)(hv:cs[j*s]?=some v):
 OpP P ⟨d,.index t x lo,ty,pos,af,g⟩ env [] v:=fun a w _=>by
 simp [gJ,hx a,I a,Instr.index,run_underlying K,asIntOf,G,J,part,E,hv]
theorem X4{fs:Array Field}{f:Nat}{fl:Field}{cs:As}{v:A3}(I:P.underlying t=some (.struct fs))(G:fs[f]?=some fl)(E:∀w:AD,(isAgg fl.type).run P w= .ok false w)(hx:∀a,ev a env x= .agg cs)(hv:cs[fl.offset]?=some v):
 OpP P ⟨d,.field t x f,ty,pos,af,g⟩ env [] v:=fun a w _=>by
 simp [u6,hx a,Instr.field,run_underlying I,G,part,E,asAgg,hv]
end
section
variable{t:An}{x:Operand}{b i:Nat}{c:As}{T:An}{z:Nat×Nat}
theorem BZ{v:A3}(E:∀w:AD,(isAgg t).run P w= .ok false w)(hx:∀a,ev a env x= .pointer (some ⟨b,i,none⟩))(hv:c[i]?=some v):OpP P ⟨d,.load t x,ty,pos,af,g⟩ env [(b,.cells c T z)] v:=fun a w h=>by
 have hc:=DL (h (b,.cells c T z) C4) hv;simp [ak,hx a,Instr.loadAt,Instr.sureAddr,loadVar,E,hc]
theorem A7{n:Nat}{cs:As}(J:∀w:AD,(isAgg t).run P w= .ok true w)(M:∀w:AD,(Go.sizeOf t).run P w= .ok n w)(hx:∀a,ev a env x= .pointer (some ⟨b,i,none⟩))(hn:i+n<=c.size)(hv:c.extract i (i+n)=cs):OpP P ⟨d,.load t x,ty,pos,af,g⟩ env [(b,.cells c T z)] (.agg cs):=fun a w h=>by
 have K:=h (b,.cells c T z) C4;have I:=run_loadCells_list (P:=P) w ⟨b,i,none⟩ cs.toList (fun j v E=>by
  rw [Cq];refine DL K ?_;rw [<-hv]at E;rw [Kf,cU]at E;split at E;· exact E
  · cases E)
 have G:cs.toList.length=n:=by rw [<-hv];simp;omega
 rw [G]at I;simp [ak,hx a,Instr.loadAt,Instr.sureAddr,loadVar,J,M,I]
end
end
end Gw
