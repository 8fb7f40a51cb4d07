/- Walking by chunks: what each operation comes to. No function of the program is named. -/
import Derived.Test.YteaiajghbkenoaaGreatDoorEx1
import Derived.Laws.Cells
import Derived.Laws.CopyRow
import Derived.Laws.BitsAllLaws
import Derived.IntWalk
import Derived.WalkLawsBesides
set_option linter.unusedVariables false
set_option linter.unusedSimpArgs false
namespace Gw
open Go Go.RowKit
theorem Cb{w:World}{b i:Nat}{c:Array Value}{T:TypeId}{z:Nat×Nat}{v:Value}(h:w.heap[b]?=some (.cells c T z))(hv:c[i]?=some v):w.cell? ⟨b,i,none⟩=some v:=by
 simp [World.cell?,h,hv]
theorem Cn(b o n:Nat):(⟨b,o,none⟩:Addr).add n=⟨b,o+n,none⟩:=by
 unfold Addr.add;split
 · rename_i h;subst h;rfl
 · rfl
section
variable(ρ:Operand->Value)(d:Option Nat)(ty:TypeId)(pos:String)(af:Array Edge)(g:Option (Nat×Bool))
theorem vT(x:Operand):execOp ρ ⟨d,.move x,ty,pos,af,g⟩=pure (.value (ρ x)):=rfl
theorem ko(x:Operand):execOp ρ ⟨d,.assign x,ty,pos,af,g⟩=pure (.value (ρ x)):=rfl
theorem kg(c x y:Operand):execOp ρ ⟨d,.pick c x y,ty,pos,af,g⟩=(do pure (.value (if<-asBool (ρ c)then ρ x else ρ y))):=rfl
theorem rP(t:TypeId):execOp ρ ⟨d,.alloc t,ty,pos,af,g⟩=(do pure (.value (<-Instr.alloc t true (.tuple #[])))):=rfl
theorem xB(t:TypeId)(x:Operand):execOp ρ ⟨d,.box t x,ty,pos,af,g⟩=(do pure (.value (<-Instr.box t (ρ x)))):=rfl
theorem rO(t:TypeId)(ps:Array (Nat×Operand)):execOp ρ ⟨d,.build t ps,ty,pos,af,g⟩=(do pure (.value (<-Instr.build t (ps.map fun(i,x)=>(i,ρ x))))):=rfl
theorem Nc(t:TypeId)(n:Nat)(ps:Array (Nat×Operand)):execOp ρ ⟨d,.buildSlice t n ps,ty,pos,af,g⟩=(do pure (.value (<-Instr.buildSlice t n (ps.map fun(i,x)=>(i,ρ x))))):=rfl
theorem ZG(t:TypeId)(x:Operand):execOp ρ ⟨d,.load t x,ty,pos,af,g⟩=(do pure (.value (<-Instr.loadAt t (ρ x)))):=rfl
theorem Qc(t:TypeId)(x y:Operand):execOp ρ ⟨d,.store t x y,ty,pos,af,g⟩=(do Instr.storeAt t (ρ x) (ρ y);pure .skip):=rfl
theorem Cr(op:BinOp)(t:TypeId)(x y:Operand)(yt:TypeId):execOp ρ ⟨d,.binOp op t x y yt,ty,pos,af,g⟩=(do let v<-(do eqGuard op t x y (ρ x) (ρ y);binOp op t (ρ x) (ρ y));pure (.value v)):=rfl
theorem VG(op:UnOp)(t:TypeId)(x:Operand):execOp ρ ⟨d,.unOp op t x,ty,pos,af,g⟩=(do pure (.value (<-Op.unary op (ρ x)))):=rfl
theorem Jd(s t:TypeId)(x:Operand):execOp ρ ⟨d,.convert s t x,ty,pos,af,g⟩=(do pure (.value (<-convert s t (ρ x)))):=rfl
theorem ZF(fn:Fn)(p q:Array Operand):execOp ρ ⟨d,.makeFunc fn p q,ty,pos,af,g⟩=(do pure (.value (<-Instr.makeFunc fn (p.map ρ) (q.map ρ)))):=rfl
theorem Pp(t:TypeId)(l c:Operand):execOp ρ ⟨d,.makeSlice t l c,ty,pos,af,g⟩=(do pure (.value (<-Instr.makeSlice t (ρ l) (ρ c)))):=rfl
theorem Lj(t:TypeId)(x:Operand)(lo hi mx:Option Operand):execOp ρ ⟨d,.slice t x lo hi mx,ty,pos,af,g⟩=(do pure (.value (<-Instr.sliceAt t (ρ x) (lo.map ρ) (hi.map ρ) (mx.map ρ)))):=rfl
theorem We(t:TypeId)(x:Operand)(f:Nat):execOp ρ ⟨d,.fieldAddr t x f,ty,pos,af,g⟩=(do pure (.value (<-Instr.fieldAt t (ρ x) f))):=rfl
theorem rM(t:TypeId)(x:Operand)(f:Nat):execOp ρ ⟨d,.field t x f,ty,pos,af,g⟩=(do pure (.value (<-Instr.field t (ρ x) f))):=rfl
theorem Hq(t:TypeId)(x i:Operand):execOp ρ ⟨d,.indexAddr t x i,ty,pos,af,g⟩=(do pure (.value (<-Instr.indexAt t (ρ x) (ρ i)))):=rfl
theorem rJ(t:TypeId)(x i:Operand):execOp ρ ⟨d,.index t x i,ty,pos,af,g⟩=(do pure (.value (<-Instr.index t (ρ x) (ρ i)))):=rfl
theorem fe(x:Operand)(i:Nat):execOp ρ ⟨d,.extract x i,ty,pos,af,g⟩=(do pure (.value (<-Instr.extract (ρ x) i))):=rfl
theorem Dj(c:Call):execOp ρ ⟨d,.call c,ty,pos,af,g⟩=(do let e<-resolve ρ c ty;invoke e.target e.args):=rfl
theorem Qo(x:Operand):execOp ρ ⟨d,.nilCheck x,ty,pos,af,g⟩=(match ρ x with
 | .pointer none| .nilIface| .nilFunc=>runtimePanic .nilDeref
 | .func (.method name) first captured=>
   match(first[0]?:Option Value)with
   |some .nilIface=>runtimePanic .nilDeref
   |some (.iface t w)=>do
    if(<-nilAhead ((<-program).types.size+Made.depth) t w name)!=some false then
     unsupported (.noEntry "op/nilCheck.the method's receiver behind this interface value is a nil pointer, or cannot be seen to be none, and the arguments act or may panic (ledger 612)")
    pure (.value (.func (.method name) first captured))
   |_=>pure (.value (.func (.method name) first captured))
 |x=>pure (.value x)):=rfl
end
theorem H7(t:TypeId)(x y:Value):Op.equal t x y=Op.equalIn (9999+1) t x y:=rfl
section
variable{P:Program}(w:World){n:Nat}{t e:TypeId}
theorem KS{p:Option Addr}(hu:P.underlying t=some (.pointer e)):(Op.equalIn (n+1) t (.pointer p) (.pointer none)).run P w= .ok p.isNone w:=by
 cases p<;>simp [Op.equalIn,run_underlying hu]
theorem WB{p:Option Addr}{a b:Nat}(hu:P.underlying t=some (.slice e)):(Op.equalIn (n+1) t (.slice p a b) (.slice none 0 0)).run P w= .ok p.isNone w:=by
 cases p<;>simp [Op.equalIn,run_underlying hu]
theorem fP{p q:Bool}(hu:P.underlying t=some .bool):(Op.equalIn (n+1) t (.bool p) (.bool q)).run P w= .ok (p==q) w:=by
 simp [Op.equalIn,run_underlying hu]
theorem JV(p q:Option Addr):binOp .eql t (.pointer p) (.pointer q)=(do pure (.bool (<-Op.equal t (.pointer p) (.pointer q)))):=by cases p<;>cases q<;>rfl
theorem JU(p q:Option Addr):binOp .neq t (.pointer p) (.pointer q)=(do pure (.bool (!(<-Op.equal t (.pointer p) (.pointer q))))):=by cases p<;>cases q<;>rfl
theorem Ty(p q:Option Addr)(a b c d:Nat):binOp .eql t (.slice p a b) (.slice q c d)=(do pure (.bool (<-Op.equal t (.slice p a b) (.slice q c d)))):=rfl
theorem Oe(p q:Bool):binOp .eql t (.bool p) (.bool q)=(do pure (.bool (<-Op.equal t (.bool p) (.bool q)))):=rfl
theorem Od(p q:Bool):binOp .neq t (.bool p) (.bool q)=(do pure (.bool (!(<-Op.equal t (.bool p) (.bool q))))):=rfl
theorem fT(op:BinOp)(s r:ByteArray):binOp op t (.string s) (.string r)=Op.stringOp op s r:=by cases op<;>rfl
end
section
variable{P:Program}{env:Env}{d:Option Nat}{ty:TypeId}{pos:String}{af:Array Edge}{g:Option (Nat×Bool)}
theorem AP{x:Operand}{v:Value}(h:∀a,ev a env x=v):OpP P ⟨d,.move x,ty,pos,af,g⟩ env [] v:=fun a w _=>by simp [vT,h a]
theorem Aq{x:Operand}{v:Value}(h:∀a,ev a env x=v):OpP P ⟨d,.assign x,ty,pos,af,g⟩ env [] v:=fun a w _=>by simp [ko,h a]
theorem AZ{c x y:Operand}{v:Value}(hc:∀a,ev a env c= .bool true)(h:∀a,ev a env x=v):OpP P ⟨d,.pick c x y,ty,pos,af,g⟩ env [] v:=fun a w _=>by simp [kg,hc a,h a,asBool]
theorem AU{c x y:Operand}{v:Value}(hc:∀a,ev a env c= .bool false)(h:∀a,ev a env y=v):OpP P ⟨d,.pick c x y,ty,pos,af,g⟩ env [] v:=fun a w _=>by simp [kg,hc a,h a,asBool]
theorem ay{x:Operand}{p:Addr}(h:∀a,ev a env x= .pointer (some p)):OpP P ⟨d,.nilCheck x,ty,pos,af,g⟩ env [] (.pointer (some p)):=fun a w _=>by simp [Qo,h a]
theorem PT{x:Operand}{t:TypeId}{v:Value}(h:∀a,ev a env x= .iface t v):OpP P ⟨d,.nilCheck x,ty,pos,af,g⟩ env [] (.iface t v):=fun a w _=>by simp [Qo,h a]
def nV:Value->Bool
 | .pointer (some _)=>true
 | .iface _ _=>true
 |_=>false
theorem Am{x:Operand}{v:Value}(h:∀a,ev a env x=v)(hv:nV v=true):OpP P ⟨d,.nilCheck x,ty,pos,af,g⟩ env [] v:=by
 unfold nV at hv;split at hv
 · exact ay h
 · exact PT h
 · cases hv
theorem Bt{x:Operand}{i:Nat}{vs:Array Value}{v:Value}(h:∀a,ev a env x= .tuple vs)(hv:vs[i]?=some v):OpP P ⟨d,.extract x i,ty,pos,af,g⟩ env [] v:=fun a w _=>by simp [fe,h a,Instr.extract,hv]
/- numbers -/
section
variable{t yt:TypeId}{x y:Operand}{k:IntKind}{m n c:Int}
theorem Ke(hx:∀a,ev a env x= .int k m)(hy:∀a,ev a env y= .int k n)(hc:k.wrap (m+n)=c):OpP P ⟨d,.binOp .add t x y yt,ty,pos,af,g⟩ env [] (.int k c):=fun a w _=>by
 simp [Cr,hx a,hy a,go_sem,hc]
theorem Hz(hx:∀a,ev a env x= .int k m)(hy:∀a,ev a env y= .int k n)(hc:k.wrap (m -n)=c):OpP P ⟨d,.binOp .sub t x y yt,ty,pos,af,g⟩ env [] (.int k c):=fun a w _=>by
 simp [Cr,hx a,hy a,go_sem,hc]
theorem nE(hx:∀a,ev a env x= .int k m)(hy:∀a,ev a env y= .int k n)(hc:k.wrap (m*n)=c):OpP P ⟨d,.binOp .mul t x y yt,ty,pos,af,g⟩ env [] (.int k c):=fun a w _=>by
 simp [Cr,hx a,hy a,go_sem,hc]
theorem nD(hx:∀a,ev a env x= .int k m)(hy:∀a,ev a env y= .int k n)(h0:n≠0)(hc:m.tmod n=c):OpP P ⟨d,.binOp .rem t x y yt,ty,pos,af,g⟩ env [] (.int k c):=fun a w _=>by
 simp [Cr,hx a,hy a,go_sem,hc,h0]
theorem nK(hx:∀a,ev a env x= .int k m)(hy:∀a,ev a env y= .int k n)(hc:bits .and k m n=c):OpP P ⟨d,.binOp .and t x y yt,ty,pos,af,g⟩ env [] (.int k c):=fun a w _=>by
 simp [Cr,hx a,hy a,go_sem,hc]
theorem xS(hx:∀a,ev a env x= .int k m)(hy:∀a,ev a env y= .int k n)(hc:bits .or k m n=c):OpP P ⟨d,.binOp .or t x y yt,ty,pos,af,g⟩ env [] (.int k c):=fun a w _=>by
 simp [Cr,hx a,hy a,go_sem,hc]
theorem vF(hx:∀a,ev a env x= .int k m)(hy:∀a,ev a env y= .int k n)(hc:bits .xor k m n=c):OpP P ⟨d,.binOp .xor t x y yt,ty,pos,af,g⟩ env [] (.int k c):=fun a w _=>by
 simp [Cr,hx a,hy a,go_sem,hc]
theorem eQ{yk:IntKind}(hx:∀a,ev a env x= .int k m)(hy:∀a,ev a env y= .int yk n)(h0:0<=n)(h1:n<=k.bits)(hc:k.wrap (m*2^n.toNat)=c):OpP P ⟨d,.binOp .shl t x y yt,ty,pos,af,g⟩ env [] (.int k c):=fun a w _=>by
 simp [Cr,hx a,hy a,go_sem,shift_shl _ _ _ _ h0 h1,hc]
theorem nC{yk:IntKind}(hx:∀a,ev a env x= .int k m)(hy:∀a,ev a env y= .int yk n)(h0:0<=n)(h1:n<=k.bits)(hc:m/2^n.toNat=c):OpP P ⟨d,.binOp .shr t x y yt,ty,pos,af,g⟩ env [] (.int k c):=fun a w _=>by
 simp [Cr,hx a,hy a,go_sem,shift_shr _ _ _ _ h0 h1,hc]
theorem CL(hx:∀a,ev a env x= .int k m)(hy:∀a,ev a env y= .int k n):OpP P ⟨d,.binOp .eql t x y yt,ty,pos,af,g⟩ env [] (.bool (decide (m=n))):=fun a w _=>by
 simp [Cr,hx a,hy a,go_sem];rfl
theorem JN(hx:∀a,ev a env x= .int k m)(hy:∀a,ev a env y= .int k n):OpP P ⟨d,.binOp .neq t x y yt,ty,pos,af,g⟩ env [] (.bool (decide (m≠n))):=fun a w _=>by
 simp [Cr,hx a,hy a,go_sem,bne];rfl
theorem Dq(hx:∀a,ev a env x= .int k m)(hy:∀a,ev a env y= .int k n):OpP P ⟨d,.binOp .lss t x y yt,ty,pos,af,g⟩ env [] (.bool (decide (m<n))):=fun a w _=>by
 simp [Cr,hx a,hy a,go_sem]
theorem OD(hx:∀a,ev a env x= .int k m)(hy:∀a,ev a env y= .int k n):OpP P ⟨d,.binOp .leq t x y yt,ty,pos,af,g⟩ env [] (.bool (decide (m<=n))):=fun a w _=>by
 simp [Cr,hx a,hy a,go_sem]
theorem FI(hx:∀a,ev a env x= .int k m)(hy:∀a,ev a env y= .int k n):OpP P ⟨d,.binOp .gtr t x y yt,ty,pos,af,g⟩ env [] (.bool (decide (n<m))):=fun a w _=>by
 simp [Cr,hx a,hy a,go_sem]
theorem Iq(hx:∀a,ev a env x= .int k m)(hy:∀a,ev a env y= .int k n):OpP P ⟨d,.binOp .geq t x y yt,ty,pos,af,g⟩ env [] (.bool (decide (n<=m))):=fun a w _=>by
 simp [Cr,hx a,hy a,go_sem]
theorem vH(hx:∀a,ev a env x= .int k m)(hc:k.wrap (0 -m)=c):OpP P ⟨d,.unOp .neg t x,ty,pos,af,g⟩ env [] (.int k c):=fun a w _=>by
 simp [VG,hx a,Op.unary,Op.intArith]at hc⊢;exact hc
theorem xU(hx:∀a,ev a env x= .int k m)(hc:bits .xor k (if k.signed then-1 else k.max) m=c):OpP P ⟨d,.unOp .xor t x,ty,pos,af,g⟩ env [] (.int k c):=fun a w _=>by
 simp [VG,hx a,Op.unary,go_sem,hc]
theorem Br{b:Bool}(hx:∀a,ev a env x= .bool b):OpP P ⟨d,.unOp .not t x,ty,pos,af,g⟩ env [] (.bool (!b)):=fun a w _=>by
 simp [VG,hx a,Op.unary]
theorem Eg{p:Prop} [hd:Decidable p](hx:∀a,ev a env x= .bool (decide p)):OpP P ⟨d,.unOp .not t x,ty,pos,af,g⟩ env [] (.bool (decide ¬p)):=fun a w _=>by
 simp [VG,hx a,Op.unary]
theorem EU{s:TypeId}{k':IntKind}{ds:TypeDesc}(hs:P.underlying s=some ds)(ht:P.underlying t=some (.int k'))(hx:∀a,ev a env x= .int k m)(hc:k'.wrap m=c):OpP P ⟨d,.convert s t x,ty,pos,af,g⟩ env [] (.int k' c):=fun a w _=>by
 simp [Jd,hx a,convert,run_underlying hs,run_underlying ht,Conv.intToInt,hc]
end
/- numbers that are natural -/
theorem Du(n:Nat)(h:n<=9223372036854775807):IntKind.i64.wrap (n:Int)=(n:Int):=IntWalk.i64_in _ Ao7
section
variable{t yt:TypeId}{x y:Operand}{m n:Nat}
theorem Ei(hx:∀a,ev a env x=I4 (m:Int))(hy:∀a,ev a env y=I4 (n:Int))(hb:m+n<=9223372036854775807):OpP P ⟨d,.binOp .add t x y yt,ty,pos,af,g⟩ env [] (I4 ((m+n:Nat):Int)):=
 Ke hx hy (by rw [<-Int.natCast_add];exact Du _ hb)
theorem CS(hx:∀a,ev a env x=I4 (m:Int))(hy:∀a,ev a env y=I4 (n:Int))(hb:n<=m)(hm:m<=9223372036854775807):OpP P ⟨d,.binOp .sub t x y yt,ty,pos,af,g⟩ env [] (I4 ((m -n:Nat):Int)):=
 Hz hx hy (by rw [<-Int.ofNat_sub hb];exact Du _ Ao7)
theorem FZ(hx:∀a,ev a env x=I4 (m:Int))(hy:∀a,ev a env y=I4 (n:Int))(hb:m*n<=9223372036854775807):OpP P ⟨d,.binOp .mul t x y yt,ty,pos,af,g⟩ env [] (I4 ((m*n:Nat):Int)):=
 nE hx hy (by rw [<-AR0];exact Du _ hb)
theorem iQ(hx:∀a,ev a env x=I4 (m:Int))(hy:∀a,ev a env y=I4 (n:Int))(h0:0<n):OpP P ⟨d,.binOp .rem t x y yt,ty,pos,af,g⟩ env [] (I4 ((m%n:Nat):Int)):=
 nD hx hy Ao7 (by rw [Int.tmod_eq_emod_of_nonneg Ao7];rfl)
theorem Au{k:IntKind}(hx:∀a,ev a env x= .int k (m:Int))(hy:∀a,ev a env y= .int k (n:Int)):OpP P ⟨d,.binOp .lss t x y yt,ty,pos,af,g⟩ env [] (.bool (decide (m<n))):=fun a w h=>by
 have:=Dq (P:=P) (d:=d) (ty:=ty) (pos:=pos) (af:=af) (g:=g) (t:=t) (yt:=yt) hx hy a w h;simpa using this
theorem Gv{k:IntKind}(hx:∀a,ev a env x= .int k (m:Int))(hy:∀a,ev a env y= .int k (n:Int)):OpP P ⟨d,.binOp .leq t x y yt,ty,pos,af,g⟩ env [] (.bool (decide (m<=n))):=fun a w h=>by
 have:=OD (P:=P) (d:=d) (ty:=ty) (pos:=pos) (af:=af) (g:=g) (t:=t) (yt:=yt) hx hy a w h;simpa using this
theorem Df{k:IntKind}(hx:∀a,ev a env x= .int k (m:Int))(hy:∀a,ev a env y= .int k (n:Int)):OpP P ⟨d,.binOp .gtr t x y yt,ty,pos,af,g⟩ env [] (.bool (decide (n<m))):=fun a w h=>by
 have:=FI (P:=P) (d:=d) (ty:=ty) (pos:=pos) (af:=af) (g:=g) (t:=t) (yt:=yt) hx hy a w h;simpa using this
theorem GK{k:IntKind}(hx:∀a,ev a env x= .int k (m:Int))(hy:∀a,ev a env y= .int k (n:Int)):OpP P ⟨d,.binOp .geq t x y yt,ty,pos,af,g⟩ env [] (.bool (decide (n<=m))):=fun a w h=>by
 have:=Iq (P:=P) (d:=d) (ty:=ty) (pos:=pos) (af:=af) (g:=g) (t:=t) (yt:=yt) hx hy a w h;simpa using this
theorem DL{k:IntKind}(hx:∀a,ev a env x= .int k (m:Int))(hy:∀a,ev a env y= .int k (n:Int)):OpP P ⟨d,.binOp .eql t x y yt,ty,pos,af,g⟩ env [] (.bool (decide (m=n))):=fun a w h=>by
 have:=CL (P:=P) (d:=d) (ty:=ty) (pos:=pos) (af:=af) (g:=g) (t:=t) (yt:=yt) hx hy a w h;rw [this];simp only [Int.ofNat_inj]
theorem Eh{k:IntKind}(hx:∀a,ev a env x= .int k (m:Int))(hy:∀a,ev a env y= .int k (n:Int)):OpP P ⟨d,.binOp .neq t x y yt,ty,pos,af,g⟩ env [] (.bool (decide (m≠n))):=fun a w h=>by
 have:=JN (P:=P) (d:=d) (ty:=ty) (pos:=pos) (af:=af) (g:=g) (t:=t) (yt:=yt) hx hy a w h;rw [this];simp only [ne_eq,Int.ofNat_inj]
end
/- bools, strings, pointers compared -/
section
variable{t yt:TypeId}{x y:Operand}
theorem iR{s r:ByteArray}(hx:∀a,ev a env x= .string s)(hy:∀a,ev a env y= .string r):OpP P ⟨d,.binOp .eql t x y yt,ty,pos,af,g⟩ env [] (.bool (decide (s=r))):=fun a w _=>by
 simp [Cr,hx a,hy a,go_sem,fT,Op.stringOp];by_cases h:s=r
 · simp [h]
 · simp only [h,An5,beq_eq_false_iff_ne,ne_eq]
   intro e;apply h;cases s;cases r;simpa [ByteArray.toList_eq]using e
theorem M4{s r:ByteArray}(hx:∀a,ev a env x= .string s)(hy:∀a,ev a env y= .string r)(hb:s.size+r.size<=9223372036854775807):OpP P ⟨d,.binOp .add t x y yt,ty,pos,af,g⟩ env [] (.string (s++r)):=fun a w _=>by
 simp [Cr,hx a,hy a,go_sem,fT,Op.stringOp];omega
theorem BU{e:TypeId}{p:Addr}(hu:P.underlying t=some (.pointer e))(hx:∀a,ev a env x= .pointer (some p))(hy:∀a,ev a env y= .pointer none):OpP P ⟨d,.binOp .eql t x y yt,ty,pos,af,g⟩ env [] (.bool false):=fun a w _=>by
 simp [Cr,hx a,hy a,go_sem,JV,JU,H7,KS _ hu]
theorem JZ{e:TypeId}(hu:P.underlying t=some (.pointer e))(hx:∀a,ev a env x= .pointer none)(hy:∀a,ev a env y= .pointer none):OpP P ⟨d,.binOp .eql t x y yt,ty,pos,af,g⟩ env [] (.bool true):=fun a w _=>by
 simp [Cr,hx a,hy a,go_sem,JV,JU,H7,KS _ hu]
theorem Mh{e:TypeId}{p:Addr}(hu:P.underlying t=some (.pointer e))(hx:∀a,ev a env x= .pointer (some p))(hy:∀a,ev a env y= .pointer none):OpP P ⟨d,.binOp .neq t x y yt,ty,pos,af,g⟩ env [] (.bool true):=fun a w _=>by
 simp [Cr,hx a,hy a,go_sem,JV,JU,H7,KS _ hu]
theorem Mi{e:TypeId}(hu:P.underlying t=some (.pointer e))(hx:∀a,ev a env x= .pointer none)(hy:∀a,ev a env y= .pointer none):OpP P ⟨d,.binOp .neq t x y yt,ty,pos,af,g⟩ env [] (.bool false):=fun a w _=>by
 simp [Cr,hx a,hy a,go_sem,JV,JU,H7,KS _ hu]
theorem DX{e:TypeId}{p:Option Addr}{n c:Nat}(hu:P.underlying t=some (.slice e))(hx:∀a,ev a env x= .slice p n c)(hy:∀a,ev a env y= .slice none 0 0):OpP P ⟨d,.binOp .eql t x y yt,ty,pos,af,g⟩ env [] (.bool p.isNone):=fun a w _=>by
 simp [Cr,hx a,hy a,go_sem,Ty,H7,WB _ hu]
theorem NG{p q:Bool}(hu:P.underlying t=some .bool)(hx:∀a,ev a env x= .bool p)(hy:∀a,ev a env y= .bool q):OpP P ⟨d,.binOp .eql t x y yt,ty,pos,af,g⟩ env [] (.bool (decide (p=q))):=fun a w _=>by
 simp [Cr,hx a,hy a,go_sem,Oe,Od,H7,fP _ hu];rfl
theorem Ip{p q:Bool}(hu:P.underlying t=some .bool)(hx:∀a,ev a env x= .bool p)(hy:∀a,ev a env y= .bool q):OpP P ⟨d,.binOp .neq t x y yt,ty,pos,af,g⟩ env [] (.bool (decide (p≠q))):=fun a w _=>by
 simp [Cr,hx a,hy a,go_sem,Oe,Od,H7,fP _ hu];rfl
end
/- lengths -/
theorem Aa{x:Operand}{T e:TypeId}{b:Option Addr}{n c:Nat}(hu:P.underlying T=some (.slice e))(hx:∀a,ev a env x= .slice b n c):OpP P ⟨d,.call ⟨.builtin .len,#[x],#[T]⟩,ty,pos,af,g⟩ env [] (I4 (n:Int)):=fun a w _=>by
 simp [Dj,resolve,invoke,builtin,hx a,Builtin.len_,run_underlying hu,goInt]
theorem Q8{x:Operand}{T e:TypeId}{b:Option Addr}{n c:Nat}(hu:P.underlying T=some (.slice e))(hx:∀a,ev a env x= .slice b n c):OpP P ⟨d,.call ⟨.builtin .cap,#[x],#[T]⟩,ty,pos,af,g⟩ env [] (I4 (c:Int)):=fun a w _=>by
 simp [Dj,resolve,invoke,builtin,hx a,Builtin.cap_,run_underlying hu,goInt]
theorem PW{x:Operand}{T:TypeId}{s:ByteArray}(hu:P.underlying T=some .string)(hx:∀a,ev a env x= .string s):OpP P ⟨d,.call ⟨.builtin .len,#[x],#[T]⟩,ty,pos,af,g⟩ env [] (I4 (s.size:Int)):=fun a w _=>by
 simp [Dj,resolve,invoke,builtin,hx a,Builtin.len_,run_underlying hu,goInt]
theorem PU{x y:Operand}{Ts:Array TypeId}{k:IntKind}{m n:Nat}(hx:∀a,ev a env x= .int k (m:Int))(hy:∀a,ev a env y= .int k (n:Int)):OpP P ⟨d,.call ⟨.builtin .min,#[x,y],Ts⟩,ty,pos,af,g⟩ env [] (.int k ((min m n:Nat):Int)):=fun a w _=>by
 simp [Dj,resolve,invoke,builtin,hx a,hy a,Builtin.min_,Builtin.min2];by_cases h:n<m
 · simp [h,show min m n=n by omega]
 · simp [h,show min m n=m by omega]
theorem x9{x y:Operand}{Ts:Array TypeId}{k:IntKind}{m n:Int}(hx:∀a,ev a env x= .int k m)(hy:∀a,ev a env y= .int k n):OpP P ⟨d,.call ⟨.builtin .min,#[x,y],Ts⟩,ty,pos,af,g⟩ env [] (.int k (min m n)):=fun a w _=>by
 simp [Dj,resolve,invoke,builtin,hx a,hy a,Builtin.min_,Builtin.min2];by_cases h:n<m
 · simp [h,show min m n=n by omega]
 · simp [h,show min m n=m by omega]
/- addresses -/
section
variable{t e:TypeId}{x ix:Operand}{b o n cap s:Nat}
theorem Ba{k:IntKind}{j:Nat}(hu:P.underlying t=some (.slice e))(hs:∀w:World,(Go.sizeOf e).run P w= .ok 1 w)(hx:∀a,ev a env x=I6 b n cap)(hi:∀a,ev a env ix= .int k (j:Int))(hj:j<n):
 OpP P ⟨d,.indexAddr t x ix,ty,pos,af,g⟩ env [] (.pointer (some ⟨b,j,none⟩)):=fun a w _=>by
 simp [Hq,hx a,hi a,Instr.indexAt,run_underlying hu,asIntOf,hs,hj,Cn]
theorem CY{k:IntKind}{j:Nat}(hu:P.underlying t=some (.slice e))(hs:∀w:World,(Go.sizeOf e).run P w= .ok 1 w)(hx:∀a,ev a env x= .slice (some ⟨b,o,none⟩) n cap)(hi:∀a,ev a env ix= .int k (j:Int))(hj:j<n):
 OpP P ⟨d,.indexAddr t x ix,ty,pos,af,g⟩ env [] (.pointer (some ⟨b,o+j,none⟩)):=fun a w _=>by
 simp [Hq,hx a,hi a,Instr.indexAt,run_underlying hu,asIntOf,hs,hj,Cn]
theorem Ai{k:IntKind}{j:Nat}(hu:P.underlying t=some (.slice e))(hs:∀w:World,(Go.sizeOf e).run P w= .ok s w)(hx:∀a,ev a env x= .slice (some ⟨b,o,none⟩) n cap)(hi:∀a,ev a env ix= .int k (j:Int))(hj:j<n):
 OpP P ⟨d,.indexAddr t x ix,ty,pos,af,g⟩ env [] (.pointer (some ⟨b,o+j*s,none⟩)):=fun a w _=>by
 simp [Hq,hx a,hi a,Instr.indexAt,run_underlying hu,asIntOf,hs,hj,Cn]
theorem BP{k:IntKind}{j:Nat}(hu:P.underlying t=some (.array n e))(hs:∀w:World,(Go.sizeOf e).run P w= .ok 1 w)(hx:∀a,ev a env x=I5 b)(hi:∀a,ev a env ix= .int k (j:Int))(hj:j<n):
 OpP P ⟨d,.indexAddr t x ix,ty,pos,af,g⟩ env [] (.pointer (some ⟨b,j,none⟩)):=fun a w _=>by
 simp [Hq,hx a,hi a,Instr.indexAt,run_underlying hu,asIntOf,hs,hj,Cn,Instr.sureAddr]
theorem kY{k:IntKind}{j:Nat}(hu:P.underlying t=some (.array n e))(hs:∀w:World,(Go.sizeOf e).run P w= .ok s w)(hx:∀a,ev a env x= .pointer (some ⟨b,o,none⟩))(hi:∀a,ev a env ix= .int k (j:Int))(hj:j<n):
 OpP P ⟨d,.indexAddr t x ix,ty,pos,af,g⟩ env [] (.pointer (some ⟨b,o+j*s,none⟩)):=fun a w _=>by
 simp [Hq,hx a,hi a,Instr.indexAt,run_underlying hu,asIntOf,hs,hj,Cn,Instr.sureAddr]
theorem Q6{fs:Array Field}{f:Nat}{fl:Field}{m:Nat}(hu:P.underlying t=some (.struct fs))(hf:fs[f]?=some fl)(hs:∀w:World,(Go.sizeOf fl.type).run P w= .ok (m+1) w)(hx:∀a,ev a env x= .pointer (some ⟨b,o,none⟩)){q:Nat}(hq:o+fl.offset=q):
 OpP P ⟨d,.fieldAddr t x f,ty,pos,af,g⟩ env [] (.pointer (some ⟨b,q,none⟩)):=fun a w _=>by
 simp [We,hx a,Instr.fieldAt,run_underlying hu,hf,Instr.sureAddr,fieldPlace,hs,Cn,hq]
end
/- strings and slices cut -/
section
variable{t e:TypeId}{x lo hi:Operand}
def En(b:Option Addr)(l cap s:Nat):Option Addr:=if cap=l then b else b.map (·.add (l*s))
theorem CK{b:Option Addr}{n cap h s:Nat}{hk:IntKind}(hu:P.underlying t=some (.slice e))(hs:∀w:World,(Go.sizeOf e).run P w= .ok s w)(hx:∀a,ev a env x= .slice b n cap)(hh:∀a,ev a env hi= .int hk (h:Int))(h2:h<=cap):
 OpP P ⟨d,.slice t x none (some hi) none,ty,pos,af,g⟩ env [] (.slice b h cap):=fun a w _=>by
 cases b<;>simp [Lj,hx a,hh a,Instr.sliceAt,Instr.slice,run_underlying hu,Instr.sliceBounds,Instr.sliceBound,asIntOf,h2,hs,Addr.add]
theorem CR{b:Option Addr}{n cap l s:Nat}{lk:IntKind}(hu:P.underlying t=some (.slice e))(hs:∀w:World,(Go.sizeOf e).run P w= .ok s w)(hx:∀a,ev a env x= .slice b n cap)(hl:∀a,ev a env lo= .int lk (l:Int))(h1:l<=n):
 OpP P ⟨d,.slice t x (some lo) none none,ty,pos,af,g⟩ env [] (.slice (En b l cap s) (n -l) (cap -l)):=fun a w _=>by
 simp [Lj,hx a,hl a,Instr.sliceAt,Instr.slice,run_underlying hu,Instr.sliceBounds,Instr.sliceBound,asIntOf,h1,hs,En]
theorem Q5{n s:Nat}{cs:Array Value}{j:Nat}{k:IntKind}{v:Value}(hu:P.underlying t=some (.array n e))(ha:∀w:World,(isAgg e).run P w= .ok false w)(hs:∀w:World,(Go.sizeOf e).run P w= .ok s w)(hx:∀a,ev a env x= .agg cs)(hl:∀a,ev a env lo= .int k (j:Int))(hj:j<n)(hv:cs[j*s]?=some v):
 OpP P ⟨d,.index t x lo,ty,pos,af,g⟩ env [] v:=fun a w _=>by
 simp [rJ,hx a,hl a,Instr.index,run_underlying hu,asIntOf,hj,hs,part,ha,hv]
theorem Vi{fs:Array Field}{f:Nat}{fl:Field}{cs:Array Value}{v:Value}(hu:P.underlying t=some (.struct fs))(hf:fs[f]?=some fl)(ha:∀w:World,(isAgg fl.type).run P w= .ok false w)(hx:∀a,ev a env x= .agg cs)(hv:cs[fl.offset]?=some v):
 OpP P ⟨d,.field t x f,ty,pos,af,g⟩ env [] v:=fun a w _=>by
 simp [rM,hx a,Instr.field,run_underlying hu,hf,part,ha,asAgg,hv]
end
/- memory read -/
section
variable{t:TypeId}{x:Operand}{b i:Nat}{c:Array Value}{T:TypeId}{z:Nat×Nat}
theorem BX{v:Value}(ha:∀w:World,(isAgg t).run P w= .ok false w)(hx:∀a,ev a env x= .pointer (some ⟨b,i,none⟩))(hv:c[i]?=some v):OpP P ⟨d,.load t x,ty,pos,af,g⟩ env [(b,.cells c T z)] v:=fun a w h=>by
 have hc:=Cb (h (b,.cells c T z) Ap0) hv;simp [ZG,hx a,Instr.loadAt,Instr.sureAddr,loadVar,ha,hc]
theorem AA{n:Nat}{cs:Array Value}(ha:∀w:World,(isAgg t).run P w= .ok true w)(hs:∀w:World,(Go.sizeOf t).run P w= .ok n w)(hx:∀a,ev a env x= .pointer (some ⟨b,i,none⟩))(hn:i+n<=c.size)(hv:c.extract i (i+n)=cs):OpP P ⟨d,.load t x,ty,pos,af,g⟩ env [(b,.cells c T z)] (.agg cs):=fun a w h=>by
 have hb:=h (b,.cells c T z) Ap0;have hl:=run_loadCells_list (P:=P) w ⟨b,i,none⟩ cs.toList (fun j v hj=>by
  rw [Cn];refine Cb hb ?_;rw [<-hv]at hj;rw [AA3,AK6]at hj;split at hj
  · exact hj
  · cases hj)
 have hlen:cs.toList.length=n:=by rw [<-hv];simp;omega
 rw [hlen]at hl;simp [ZG,hx a,Instr.loadAt,Instr.sureAddr,loadVar,ha,hs,hl]
end
end
end Gw
