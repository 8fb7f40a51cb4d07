/- Walking by chunks: what each operation comes to. No function of the program is named. -/
import Derived.Test.YtfhjaegddfehhaaGreatDoorEx1
import Derived.WalkLawsBesides
set_option linter.unusedVariables false
set_option linter.unusedSimpArgs false
namespace Gw
open Go Go.RowKit
theorem Cn{w:World}{b i:Nat}{c:Array Value}{T:TypeId}{z:Nat×Nat}{v:Value}(h:w.heap[b]?=some (.cells c T z))(hv:c[i]?=some v):w.cell? ⟨b,i,none⟩=some v:=by
 simp [World.cell?,h,hv]
theorem CY(b o n:Nat):(⟨b,o,none⟩:Addr).add n=⟨b,o+n,none⟩:=by
 unfold Addr.add;split;· rename_i h;subst h;rfl
 · rfl
section
variable(ρ:Operand->Value)(d:Option Nat)(ty:TypeId)(pos:String)(af:Array Edge)(g:Option (Nat×Bool))
theorem yx(x:Operand):execOp ρ ⟨d,.move x,ty,pos,af,g⟩=pure (.value (ρ x)):=rfl
theorem oJ(x:Operand):execOp ρ ⟨d,.assign x,ty,pos,af,g⟩=pure (.value (ρ x)):=rfl
theorem oI(c x y:Operand):execOp ρ ⟨d,.pick c x y,ty,pos,af,g⟩=(do pure (.value (if<-asBool (ρ c)then ρ x else ρ y))):=rfl
theorem vg(t:TypeId):execOp ρ ⟨d,.alloc t,ty,pos,af,g⟩=(do pure (.value (<-Instr.alloc t true (.tuple #[])))):=rfl
theorem sL(t:TypeId)(x:Operand):execOp ρ ⟨d,.box t x,ty,pos,af,g⟩=(do pure (.value (<-Instr.box t (ρ x)))):=rfl
theorem vZ(t:TypeId)(ps:Array (Nat×Operand)):execOp ρ ⟨d,.build t ps,ty,pos,af,g⟩=(do pure (.value (<-Instr.build t (ps.map fun(i,x)=>(i,ρ x))))):=rfl
theorem OC(t:TypeId)(n:Nat)(ps:Array (Nat×Operand)):execOp ρ ⟨d,.buildSlice t n ps,ty,pos,af,g⟩=(do pure (.value (<-Instr.buildSlice t n (ps.map fun(i,x)=>(i,ρ x))))):=rfl
theorem bK(t:TypeId)(x:Operand):execOp ρ ⟨d,.load t x,ty,pos,af,g⟩=(do pure (.value (<-Instr.loadAt t (ρ x)))):=rfl
theorem RI(t:TypeId)(x y:Operand):execOp ρ ⟨d,.store t x y,ty,pos,af,g⟩=(do Instr.storeAt t (ρ x) (ρ y);pure .skip):=rfl
theorem Cm(B:BinOp)(t:TypeId)(x y:Operand)(yt:TypeId):execOp ρ ⟨d,.binOp B t x y yt,ty,pos,af,g⟩=(do let v<-(do eqGuard B t x y (ρ x) (ρ y);binOp B t (ρ x) (ρ y));pure (.value v)):=rfl
theorem WU(B:UnOp)(t:TypeId)(x:Operand):execOp ρ ⟨d,.unOp B t x,ty,pos,af,g⟩=(do pure (.value (<-Op.unary B (ρ x)))):=rfl
theorem Jw(s t:TypeId)(x:Operand):execOp ρ ⟨d,.convert s t x,ty,pos,af,g⟩=(do pure (.value (<-convert s t (ρ x)))):=rfl
theorem bJ(B:Fn)(p q:Array Operand):execOp ρ ⟨d,.makeFunc B p q,ty,pos,af,g⟩=(do pure (.value (<-Instr.makeFunc B (p.map ρ) (q.map ρ)))):=rfl
theorem QT(t:TypeId)(l c:Operand):execOp ρ ⟨d,.makeSlice t l c,ty,pos,af,g⟩=(do pure (.value (<-Instr.makeSlice t (ρ l) (ρ c)))):=rfl
theorem KV(t:TypeId)(x:Operand)(lo hi B:Option Operand):execOp ρ ⟨d,.slice t x lo hi B,ty,pos,af,g⟩=(do pure (.value (<-Instr.sliceAt t (ρ x) (lo.map ρ) (hi.map ρ) (B.map ρ)))):=rfl
theorem Y0(t:TypeId)(x:Operand)(f:Nat):execOp ρ ⟨d,.fieldAddr t x f,ty,pos,af,g⟩=(do pure (.value (<-Instr.fieldAt t (ρ x) f))):=rfl
theorem vY(t:TypeId)(x:Operand)(f:Nat):execOp ρ ⟨d,.field t x f,ty,pos,af,g⟩=(do pure (.value (<-Instr.field t (ρ x) f))):=rfl
theorem IP(t:TypeId)(x i:Operand):execOp ρ ⟨d,.indexAddr t x i,ty,pos,af,g⟩=(do pure (.value (<-Instr.indexAt t (ρ x) (ρ i)))):=rfl
theorem vX(t:TypeId)(x i:Operand):execOp ρ ⟨d,.index t x i,ty,pos,af,g⟩=(do pure (.value (<-Instr.index t (ρ x) (ρ i)))):=rfl
theorem jf(x:Operand)(i:Nat):execOp ρ ⟨d,.extract x i,ty,pos,af,g⟩=(do pure (.value (<-Instr.extract (ρ x) i))):=rfl
theorem Dz(c:Call):execOp ρ ⟨d,.call c,ty,pos,af,g⟩=(do let e<-resolve ρ c ty;invoke e.target e.args):=rfl
theorem Ra(x:Operand):execOp ρ ⟨d,.nilCheck x,ty,pos,af,g⟩=(match ρ x with
 | .pointer none| .nilIface| .nilFunc=>runtimePanic .nilDeref
 | .func (.method name) first captured=>
   match(first[0]?:Option Value)with
   |some .nilIface=>runtimePanic .nilDeref
   |some (.iface t w)=>do
    if(<-nilAhead ((<-program).types.size+Made.depth) t w name)!=some false then
     unsupported (.noEntry "op/nilCheck.the method's receiver behind this interface value is a nil pointer, or cannot be seen to be none, and the arguments act or may panic (ledger 612)")
    pure (.value (.func (.method name) first captured))
   |_=>pure (.value (.func (.method name) first captured))
 |x=>pure (.value x)):=rfl
end
theorem IA(t:TypeId)(x y:Value):Op.equal t x y=Op.equalIn (9999+1) t x y:=rfl
section
variable{P:Program}(w:World){n:Nat}{t e:TypeId}
theorem Kv{p:Option Addr}(B:P.underlying t=some (.pointer e)):(Op.equalIn (n+1) t (.pointer p) (.pointer none)).run P w= .ok p.isNone w:=by
 cases p<;>simp [Op.equalIn,run_underlying B]
theorem XX{p:Option Addr}{a b:Nat}(B:P.underlying t=some (.slice e)):(Op.equalIn (n+1) t (.slice p a b) (.slice none 0 0)).run P w= .ok p.isNone w:=by
 cases p<;>simp [Op.equalIn,run_underlying B]
theorem jV{p q:Bool}(B:P.underlying t=some .bool):(Op.equalIn (n+1) t (.bool p) (.bool q)).run P w= .ok (p==q) w:=by
 simp [Op.equalIn,run_underlying B]
theorem Jn(p q:Option Addr):binOp .eql t (.pointer p) (.pointer q)=(do pure (.bool (<-Op.equal t (.pointer p) (.pointer q)))):=by cases p<;>cases q<;>rfl
theorem Jm(p q:Option Addr):binOp .neq t (.pointer p) (.pointer q)=(do pure (.bool (!(<-Op.equal t (.pointer p) (.pointer q))))):=by cases p<;>cases q<;>rfl
theorem Uk(p q:Option Addr)(a b c d:Nat):binOp .eql t (.slice p a b) (.slice q c d)=(do pure (.bool (<-Op.equal t (.slice p a b) (.slice q c d)))):=rfl
theorem PT(p q:Bool):binOp .eql t (.bool p) (.bool q)=(do pure (.bool (<-Op.equal t (.bool p) (.bool q)))):=rfl
theorem PS(p q:Bool):binOp .neq t (.bool p) (.bool q)=(do pure (.bool (!(<-Op.equal t (.bool p) (.bool q))))):=rfl
theorem Xm(B:BinOp)(s r:ByteArray):binOp B t (.string s) (.string r)=Op.stringOp B s r:=by cases B<;>rfl
end
section
variable{P:Program}{env:Env}{d:Option Nat}{ty:TypeId}{pos:String}{af:Array Edge}{g:Option (Nat×Bool)}
theorem AP{x:Operand}{v:Value}(h:∀a,ev a env x=v):OpP P ⟨d,.move x,ty,pos,af,g⟩ env [] v:=fun a w _=>by simp [yx,h a]
theorem Av{x:Operand}{v:Value}(h:∀a,ev a env x=v):OpP P ⟨d,.assign x,ty,pos,af,g⟩ env [] v:=fun a w _=>by simp [oJ,h a]
theorem AQ{c x y:Operand}{v:Value}(hc:∀a,ev a env c= .bool true)(h:∀a,ev a env x=v):OpP P ⟨d,.pick c x y,ty,pos,af,g⟩ env [] v:=fun a w _=>by simp [oI,hc a,h a,asBool]
theorem AL{c x y:Operand}{v:Value}(hc:∀a,ev a env c= .bool false)(h:∀a,ev a env y=v):OpP P ⟨d,.pick c x y,ty,pos,af,g⟩ env [] v:=fun a w _=>by simp [oI,hc a,h a,asBool]
theorem eH{x:Operand}{p:Addr}(h:∀a,ev a env x= .pointer (some p)):OpP P ⟨d,.nilCheck x,ty,pos,af,g⟩ env [] (.pointer (some p)):=fun a w _=>by simp [Ra,h a]
theorem Q9{x:Operand}{t:TypeId}{v:Value}(h:∀a,ev a env x= .iface t v):OpP P ⟨d,.nilCheck x,ty,pos,af,g⟩ env [] (.iface t v):=fun a w _=>by simp [Ra,h a]
def rU:Value->Bool
 | .pointer (some _)=>true
 | .iface _ _=>true
 |_=>false
theorem Ap{x:Operand}{v:Value}(h:∀a,ev a env x=v)(hv:rU v=true):OpP P ⟨d,.nilCheck x,ty,pos,af,g⟩ env [] v:=by
 unfold rU at hv;split at hv;· exact eH h
 · exact Q9 h
 · cases hv
theorem Bz{x:Operand}{i:Nat}{vs:Array Value}{v:Value}(h:∀a,ev a env x= .tuple vs)(hv:vs[i]?=some v):OpP P ⟨d,.extract x i,ty,pos,af,g⟩ env [] v:=fun a w _=>by simp [jf,h a,Instr.extract,hv]
section
variable{t yt:TypeId}{x y:Operand}{k:IntKind}{m n c:Int}
theorem He(hx:∀a,ev a env x= .int k m)(hy:∀a,ev a env y= .int k n)(hc:k.wrap (m+n)=c):OpP P ⟨d,.binOp .add t x y yt,ty,pos,af,g⟩ env [] (.int k c):=fun a w _=>by
 simp [Cm,hx a,hy a,go_sem,hc]
theorem GL(hx:∀a,ev a env x= .int k m)(hy:∀a,ev a env y= .int k n)(hc:k.wrap (m -n)=c):OpP P ⟨d,.binOp .sub t x y yt,ty,pos,af,g⟩ env [] (.int k c):=fun a w _=>by
 simp [Cm,hx a,hy a,go_sem,hc]
theorem qi(hx:∀a,ev a env x= .int k m)(hy:∀a,ev a env y= .int k n)(hc:k.wrap (m*n)=c):OpP P ⟨d,.binOp .mul t x y yt,ty,pos,af,g⟩ env [] (.int k c):=fun a w _=>by
 simp [Cm,hx a,hy a,go_sem,hc]
theorem qg(hx:∀a,ev a env x= .int k m)(hy:∀a,ev a env y= .int k n)(h0:n≠0)(hc:k.wrap (m.tdiv n)=c):OpP P ⟨d,.binOp .quo t x y yt,ty,pos,af,g⟩ env [] (.int k c):=fun a w _=>by
 simp [Cm,hx a,hy a,go_sem,hc,h0]
theorem qf(hx:∀a,ev a env x= .int k m)(hy:∀a,ev a env y= .int k n)(h0:n≠0)(hc:m.tmod n=c):OpP P ⟨d,.binOp .rem t x y yt,ty,pos,af,g⟩ env [] (.int k c):=fun a w _=>by
 simp [Cm,hx a,hy a,go_sem,hc,h0]
theorem rE(hx:∀a,ev a env x= .int k m)(hy:∀a,ev a env y= .int k n)(hc:bits .and k m n=c):OpP P ⟨d,.binOp .and t x y yt,ty,pos,af,g⟩ env [] (.int k c):=fun a w _=>by
 simp [Cm,hx a,hy a,go_sem,hc]
theorem pB(hx:∀a,ev a env x= .int k m)(hy:∀a,ev a env y= .int k n)(hc:bits .or k m n=c):OpP P ⟨d,.binOp .or t x y yt,ty,pos,af,g⟩ env [] (.int k c):=fun a w _=>by
 simp [Cm,hx a,hy a,go_sem,hc]
theorem yY(hx:∀a,ev a env x= .int k m)(hy:∀a,ev a env y= .int k n)(hc:bits .xor k m n=c):OpP P ⟨d,.binOp .xor t x y yt,ty,pos,af,g⟩ env [] (.int k c):=fun a w _=>by
 simp [Cm,hx a,hy a,go_sem,hc]
theorem iy{G:IntKind}(hx:∀a,ev a env x= .int k m)(hy:∀a,ev a env y= .int G n)(h0:0<=n)(B:n<=k.bits)(hc:k.wrap (m*2^n.toNat)=c):OpP P ⟨d,.binOp .shl t x y yt,ty,pos,af,g⟩ env [] (.int k c):=fun a w _=>by
 simp [Cm,hx a,hy a,go_sem,shift_shl _ _ _ _ h0 B,hc]
theorem qd{G:IntKind}(hx:∀a,ev a env x= .int k m)(hy:∀a,ev a env y= .int G n)(h0:0<=n)(B:n<=k.bits)(hc:m/2^n.toNat=c):OpP P ⟨d,.binOp .shr t x y yt,ty,pos,af,g⟩ env [] (.int k c):=fun a w _=>by
 simp [Cm,hx a,hy a,go_sem,shift_shr _ _ _ _ h0 B,hc]
theorem CP(hx:∀a,ev a env x= .int k m)(hy:∀a,ev a env y= .int k n):OpP P ⟨d,.binOp .eql t x y yt,ty,pos,af,g⟩ env [] (.bool (decide (m=n))):=fun a w _=>by
 simp [Cm,hx a,hy a,go_sem];rfl
theorem GG(hx:∀a,ev a env x= .int k m)(hy:∀a,ev a env y= .int k n):OpP P ⟨d,.binOp .neq t x y yt,ty,pos,af,g⟩ env [] (.bool (decide (m≠n))):=fun a w _=>by
 simp [Cm,hx a,hy a,go_sem,bne];rfl
theorem Dv(hx:∀a,ev a env x= .int k m)(hy:∀a,ev a env y= .int k n):OpP P ⟨d,.binOp .lss t x y yt,ty,pos,af,g⟩ env [] (.bool (decide (m<n))):=fun a w _=>by
 simp [Cm,hx a,hy a,go_sem]
theorem NM(hx:∀a,ev a env x= .int k m)(hy:∀a,ev a env y= .int k n):OpP P ⟨d,.binOp .leq t x y yt,ty,pos,af,g⟩ env [] (.bool (decide (m<=n))):=fun a w _=>by
 simp [Cm,hx a,hy a,go_sem]
theorem Ev(hx:∀a,ev a env x= .int k m)(hy:∀a,ev a env y= .int k n):OpP P ⟨d,.binOp .gtr t x y yt,ty,pos,af,g⟩ env [] (.bool (decide (n<m))):=fun a w _=>by
 simp [Cm,hx a,hy a,go_sem]
theorem Ha(hx:∀a,ev a env x= .int k m)(hy:∀a,ev a env y= .int k n):OpP P ⟨d,.binOp .geq t x y yt,ty,pos,af,g⟩ env [] (.bool (decide (n<=m))):=fun a w _=>by
 simp [Cm,hx a,hy a,go_sem]
theorem j4(hx:∀a,ev a env x= .int k m)(hc:k.wrap (0 -m)=c):OpP P ⟨d,.unOp .neg t x,ty,pos,af,g⟩ env [] (.int k c):=fun a w _=>by
 simp [WU,hx a,Op.unary,Op.intArith]at hc⊢;exact hc
theorem td(hx:∀a,ev a env x= .int k m)(hc:bits .xor k (if k.signed then-1 else k.max) m=c):OpP P ⟨d,.unOp .xor t x,ty,pos,af,g⟩ env [] (.int k c):=fun a w _=>by
 simp [WU,hx a,Op.unary,go_sem,hc]
theorem Br{b:Bool}(hx:∀a,ev a env x= .bool b):OpP P ⟨d,.unOp .not t x,ty,pos,af,g⟩ env [] (.bool (!b)):=fun a w _=>by
 simp [WU,hx a,Op.unary]
theorem D7{p:Prop} [B:Decidable p](hx:∀a,ev a env x= .bool (decide p)):OpP P ⟨d,.unOp .not t x,ty,pos,af,g⟩ env [] (.bool (decide ¬p)):=fun a w _=>by
 simp [WU,hx a,Op.unary]
theorem Es{s:TypeId}{B:IntKind}{G:TypeDesc}(I:P.underlying s=some G)(J:P.underlying t=some (.int B))(hx:∀a,ev a env x= .int k m)(hc:B.wrap m=c):OpP P ⟨d,.convert s t x,ty,pos,af,g⟩ env [] (.int B c):=fun a w _=>by
 simp [Jw,hx a,convert,run_underlying I,run_underlying J,Conv.intToInt,hc]
end
theorem ED(n:Nat)(h:n<=9223372036854775807):IntKind.i64.wrap (n:Int)=(n:Int):=IntWalk.i64_in _ A1
section
variable{t yt:TypeId}{x y:Operand}{m n:Nat}
theorem EC(hx:∀a,ev a env x=I4 (m:Int))(hy:∀a,ev a env y=I4 (n:Int))(B:m+n<=9223372036854775807):OpP P ⟨d,.binOp .add t x y yt,ty,pos,af,g⟩ env [] (I4 ((m+n:Nat):Int)):=
 He hx hy (by rw [<-Int.natCast_add];exact ED _ B)
theorem CO(hx:∀a,ev a env x=I4 (m:Int))(hy:∀a,ev a env y=I4 (n:Int))(B:n<=m)(G:m<=9223372036854775807):OpP P ⟨d,.binOp .sub t x y yt,ty,pos,af,g⟩ env [] (I4 ((m -n:Nat):Int)):=
 GL hx hy (by rw [<-Int.ofNat_sub B];exact ED _ A1)
theorem F6(hx:∀a,ev a env x=I4 (m:Int))(hy:∀a,ev a env y=I4 (n:Int))(B:m*n<=9223372036854775807):OpP P ⟨d,.binOp .mul t x y yt,ty,pos,af,g⟩ env [] (I4 ((m*n:Nat):Int)):=
 qi hx hy (by rw [<-lR];exact ED _ B)
theorem KF(hx:∀a,ev a env x=I4 (m:Int))(hy:∀a,ev a env y=I4 (n:Int))(h0:0<n)(B:m<=9223372036854775807):OpP P ⟨d,.binOp .quo t x y yt,ty,pos,af,g⟩ env [] (I4 ((m/n:Nat):Int)):=
 qg hx hy A1 (by rw [show((m:Int).tdiv (n:Int))=((m/n:Nat):Int) from by rw [Int.tdiv_eq_ediv_of_nonneg A1];rfl];exact ED _ (MY (Nat.div_le_self _ _) B))
theorem FW(hx:∀a,ev a env x=I4 (m:Int))(hy:∀a,ev a env y=I4 (n:Int))(h0:0<n):OpP P ⟨d,.binOp .rem t x y yt,ty,pos,af,g⟩ env [] (I4 ((m%n:Nat):Int)):=
 qf hx hy A1 (by rw [Int.tmod_eq_emod_of_nonneg A1];rfl)
theorem Au{k:IntKind}(hx:∀a,ev a env x= .int k (m:Int))(hy:∀a,ev a env y= .int k (n:Int)):OpP P ⟨d,.binOp .lss t x y yt,ty,pos,af,g⟩ env [] (.bool (decide (m<n))):=fun a w h=>by
 have:=Dv (P:=P) (d:=d) (ty:=ty) (pos:=pos) (af:=af) (g:=g) (t:=t) (yt:=yt) hx hy a w h;simpa using this
theorem Ve{k:IntKind}(hx:∀a,ev a env x= .int k (m:Int))(hy:∀a,ev a env y= .int k (n:Int)):OpP P ⟨d,.binOp .leq t x y yt,ty,pos,af,g⟩ env [] (.bool (decide (m<=n))):=fun a w h=>by
 have:=NM (P:=P) (d:=d) (ty:=ty) (pos:=pos) (af:=af) (g:=g) (t:=t) (yt:=yt) hx hy a w h;simpa using this
theorem DF{k:IntKind}(hx:∀a,ev a env x= .int k (m:Int))(hy:∀a,ev a env y= .int k (n:Int)):OpP P ⟨d,.binOp .gtr t x y yt,ty,pos,af,g⟩ env [] (.bool (decide (n<m))):=fun a w h=>by
 have:=Ev (P:=P) (d:=d) (ty:=ty) (pos:=pos) (af:=af) (g:=g) (t:=t) (yt:=yt) hx hy a w h;simpa using this
theorem G6{k:IntKind}(hx:∀a,ev a env x= .int k (m:Int))(hy:∀a,ev a env y= .int k (n:Int)):OpP P ⟨d,.binOp .geq t x y yt,ty,pos,af,g⟩ env [] (.bool (decide (n<=m))):=fun a w h=>by
 have:=Ha (P:=P) (d:=d) (ty:=ty) (pos:=pos) (af:=af) (g:=g) (t:=t) (yt:=yt) hx hy a w h;simpa using this
theorem Cb{k:IntKind}(hx:∀a,ev a env x= .int k (m:Int))(hy:∀a,ev a env y= .int k (n:Int)):OpP P ⟨d,.binOp .eql t x y yt,ty,pos,af,g⟩ env [] (.bool (decide (m=n))):=fun a w h=>by
 have:=CP (P:=P) (d:=d) (ty:=ty) (pos:=pos) (af:=af) (g:=g) (t:=t) (yt:=yt) hx hy a w h;rw [this];simp only [Int.ofNat_inj]
theorem Dp{k:IntKind}(hx:∀a,ev a env x= .int k (m:Int))(hy:∀a,ev a env y= .int k (n:Int)):OpP P ⟨d,.binOp .neq t x y yt,ty,pos,af,g⟩ env [] (.bool (decide (m≠n))):=fun a w h=>by
 have:=GG (P:=P) (d:=d) (ty:=ty) (pos:=pos) (af:=af) (g:=g) (t:=t) (yt:=yt) hx hy a w h;rw [this];simp only [ne_eq,Int.ofNat_inj]
end
section
variable{t yt:TypeId}{x y:Operand}
theorem Vf{s r:ByteArray}(hx:∀a,ev a env x= .string s)(hy:∀a,ev a env y= .string r):OpP P ⟨d,.binOp .eql t x y yt,ty,pos,af,g⟩ env [] (.bool (decide (s=r))):=fun a w _=>by
 simp [Cm,hx a,hy a,go_sem,Xm,Op.stringOp];by_cases h:s=r;· simp [h]
 · simp only [h,X1,beq_eq_false_iff_ne,ne_eq]
   intro e;apply h;cases s;cases r;simpa [ByteArray.toList_eq]using e
theorem lD{s r:ByteArray}(hx:∀a,ev a env x= .string s)(hy:∀a,ev a env y= .string r):OpP P ⟨d,.binOp .neq t x y yt,ty,pos,af,g⟩ env [] (.bool (decide (s≠r))):=fun a w _=>by
 have:=Vf (P:=P) (d:=d) (ty:=ty) (pos:=pos) (af:=af) (g:=g) (t:=t) (yt:=yt) hx hy a w B0;simp [Cm,hx a,hy a,go_sem,Xm,Op.stringOp]at this⊢;simp [this]
theorem Mk{s r:ByteArray}(hx:∀a,ev a env x= .string s)(hy:∀a,ev a env y= .string r)(B:s.size+r.size<=9223372036854775807):OpP P ⟨d,.binOp .add t x y yt,ty,pos,af,g⟩ env [] (.string (s++r)):=fun a w _=>by
 simp [Cm,hx a,hy a,go_sem,Xm,Op.stringOp];omega
theorem Be{e:TypeId}{p:Addr}(B:P.underlying t=some (.pointer e))(hx:∀a,ev a env x= .pointer (some p))(hy:∀a,ev a env y= .pointer none):OpP P ⟨d,.binOp .eql t x y yt,ty,pos,af,g⟩ env [] (.bool false):=fun a w _=>by
 simp [Cm,hx a,hy a,go_sem,Jn,Jm,IA,Kv _ B]
theorem Jr{e:TypeId}(B:P.underlying t=some (.pointer e))(hx:∀a,ev a env x= .pointer none)(hy:∀a,ev a env y= .pointer none):OpP P ⟨d,.binOp .eql t x y yt,ty,pos,af,g⟩ env [] (.bool true):=fun a w _=>by
 simp [Cm,hx a,hy a,go_sem,Jn,Jm,IA,Kv _ B]
theorem NK{e:TypeId}{p:Addr}(B:P.underlying t=some (.pointer e))(hx:∀a,ev a env x= .pointer (some p))(hy:∀a,ev a env y= .pointer none):OpP P ⟨d,.binOp .neq t x y yt,ty,pos,af,g⟩ env [] (.bool true):=fun a w _=>by
 simp [Cm,hx a,hy a,go_sem,Jn,Jm,IA,Kv _ B]
theorem NL{e:TypeId}(B:P.underlying t=some (.pointer e))(hx:∀a,ev a env x= .pointer none)(hy:∀a,ev a env y= .pointer none):OpP P ⟨d,.binOp .neq t x y yt,ty,pos,af,g⟩ env [] (.bool false):=fun a w _=>by
 simp [Cm,hx a,hy a,go_sem,Jn,Jm,IA,Kv _ B]
theorem Dq{e:TypeId}{p:Option Addr}{n c:Nat}(B:P.underlying t=some (.slice e))(hx:∀a,ev a env x= .slice p n c)(hy:∀a,ev a env y= .slice none 0 0):OpP P ⟨d,.binOp .eql t x y yt,ty,pos,af,g⟩ env [] (.bool p.isNone):=fun a w _=>by
 simp [Cm,hx a,hy a,go_sem,Uk,IA,XX _ B]
theorem TE{p q:Bool}(B:P.underlying t=some .bool)(hx:∀a,ev a env x= .bool p)(hy:∀a,ev a env y= .bool q):OpP P ⟨d,.binOp .eql t x y yt,ty,pos,af,g⟩ env [] (.bool (decide (p=q))):=fun a w _=>by
 simp [Cm,hx a,hy a,go_sem,PT,PS,IA,jV _ B];rfl
theorem Ki{p q:Bool}(B:P.underlying t=some .bool)(hx:∀a,ev a env x= .bool p)(hy:∀a,ev a env y= .bool q):OpP P ⟨d,.binOp .neq t x y yt,ty,pos,af,g⟩ env [] (.bool (decide (p≠q))):=fun a w _=>by
 simp [Cm,hx a,hy a,go_sem,PT,PS,IA,jV _ B];rfl
end
theorem AY{x:Operand}{T e:TypeId}{b:Option Addr}{n c:Nat}(B:P.underlying T=some (.slice e))(hx:∀a,ev a env x= .slice b n c):OpP P ⟨d,.call ⟨.builtin .len,#[x],#[T]⟩,ty,pos,af,g⟩ env [] (I4 (n:Int)):=fun a w _=>by
 simp [Dz,resolve,invoke,builtin,hx a,Builtin.len_,run_underlying B,goInt]
theorem Qj{x:Operand}{T e:TypeId}{b:Option Addr}{n c:Nat}(B:P.underlying T=some (.slice e))(hx:∀a,ev a env x= .slice b n c):OpP P ⟨d,.call ⟨.builtin .cap,#[x],#[T]⟩,ty,pos,af,g⟩ env [] (I4 (c:Int)):=fun a w _=>by
 simp [Dz,resolve,invoke,builtin,hx a,Builtin.cap_,run_underlying B,goInt]
theorem QC{x:Operand}{T:TypeId}{s:ByteArray}(B:P.underlying T=some .string)(hx:∀a,ev a env x= .string s):OpP P ⟨d,.call ⟨.builtin .len,#[x],#[T]⟩,ty,pos,af,g⟩ env [] (I4 (s.size:Int)):=fun a w _=>by
 simp [Dz,resolve,invoke,builtin,hx a,Builtin.len_,run_underlying B,goInt]
theorem QA{x y:Operand}{Ts:Array TypeId}{k:IntKind}{m n:Nat}(hx:∀a,ev a env x= .int k (m:Int))(hy:∀a,ev a env y= .int k (n:Int)):OpP P ⟨d,.call ⟨.builtin .min,#[x,y],Ts⟩,ty,pos,af,g⟩ env [] (.int k ((min m n:Nat):Int)):=fun a w _=>by
 simp [Dz,resolve,invoke,builtin,hx a,hy a,Builtin.min_,Builtin.min2];by_cases h:n<m;· simp [h,show min m n=n by omega]
 · simp [h,show min m n=m by omega]
theorem x5{x y:Operand}{Ts:Array TypeId}{k:IntKind}{m n:Int}(hx:∀a,ev a env x= .int k m)(hy:∀a,ev a env y= .int k n):OpP P ⟨d,.call ⟨.builtin .min,#[x,y],Ts⟩,ty,pos,af,g⟩ env [] (.int k (min m n)):=fun a w _=>by
 simp [Dz,resolve,invoke,builtin,hx a,hy a,Builtin.min_,Builtin.min2];by_cases h:n<m;· simp [h,show min m n=n by omega]
 · simp [h,show min m n=m by omega]
section
variable{t e:TypeId}{x ix:Operand}{b o n cap s:Nat}
theorem BV{k:IntKind}{j:Nat}(I:P.underlying t=some (.slice e))(G:∀w:World,(Go.sizeOf e).run P w= .ok 1 w)(hx:∀a,ev a env x=I6 b n cap)(hi:∀a,ev a env ix= .int k (j:Int))(B:j<n):
 OpP P ⟨d,.indexAddr t x ix,ty,pos,af,g⟩ env [] (.pointer (some ⟨b,j,none⟩)):=fun a w _=>by
 simp [IP,hx a,hi a,Instr.indexAt,run_underlying I,asIntOf,G,B,CY]
theorem CB{k:IntKind}{j:Nat}(I:P.underlying t=some (.slice e))(G:∀w:World,(Go.sizeOf e).run P w= .ok 1 w)(hx:∀a,ev a env x= .slice (some ⟨b,o,none⟩) n cap)(hi:∀a,ev a env ix= .int k (j:Int))(B:j<n):
 OpP P ⟨d,.indexAddr t x ix,ty,pos,af,g⟩ env [] (.pointer (some ⟨b,o+j,none⟩)):=fun a w _=>by
 simp [IP,hx a,hi a,Instr.indexAt,run_underlying I,asIntOf,G,B,CY]
theorem Ac{k:IntKind}{j:Nat}(I:P.underlying t=some (.slice e))(G:∀w:World,(Go.sizeOf e).run P w= .ok s w)(hx:∀a,ev a env x= .slice (some ⟨b,o,none⟩) n cap)(hi:∀a,ev a env ix= .int k (j:Int))(B:j<n):
 OpP P ⟨d,.indexAddr t x ix,ty,pos,af,g⟩ env [] (.pointer (some ⟨b,o+j*s,none⟩)):=fun a w _=>by
 simp [IP,hx a,hi a,Instr.indexAt,run_underlying I,asIntOf,G,B,CY]
theorem BI{k:IntKind}{j:Nat}(I:P.underlying t=some (.array n e))(G:∀w:World,(Go.sizeOf e).run P w= .ok 1 w)(hx:∀a,ev a env x=I5 b)(hi:∀a,ev a env ix= .int k (j:Int))(B:j<n):
 OpP P ⟨d,.indexAddr t x ix,ty,pos,af,g⟩ env [] (.pointer (some ⟨b,j,none⟩)):=fun a w _=>by
 simp [IP,hx a,hi a,Instr.indexAt,run_underlying I,asIntOf,G,B,CY,Instr.sureAddr]
theorem Cr{k:IntKind}{j:Nat}(I:P.underlying t=some (.array n e))(G:∀w:World,(Go.sizeOf e).run P w= .ok s w)(hx:∀a,ev a env x= .pointer (some ⟨b,o,none⟩))(hi:∀a,ev a env ix= .int k (j:Int))(B:j<n):
 OpP P ⟨d,.indexAddr t x ix,ty,pos,af,g⟩ env [] (.pointer (some ⟨b,o+j*s,none⟩)):=fun a w _=>by
 simp [IP,hx a,hi a,Instr.indexAt,run_underlying I,asIntOf,G,B,CY,Instr.sureAddr]
theorem Qi{fs:Array Field}{f:Nat}{fl:Field}{m:Nat}(J:P.underlying t=some (.struct fs))(B:fs[f]?=some fl)(I:∀w:World,(Go.sizeOf fl.type).run P w= .ok (m+1) w)(hx:∀a,ev a env x= .pointer (some ⟨b,o,none⟩)){q:Nat}(G:o+fl.offset=q):
 OpP P ⟨d,.fieldAddr t x f,ty,pos,af,g⟩ env [] (.pointer (some ⟨b,q,none⟩)):=fun a w _=>by
 simp [Y0,hx a,Instr.fieldAt,run_underlying J,B,Instr.sureAddr,fieldPlace,I,CY,G]
end
section
variable{t e:TypeId}{x lo hi:Operand}
def EY(b:Option Addr)(l cap s:Nat):Option Addr:=if cap=l then b else b.map (·.add (l*s))
theorem Bq{b:Option Addr}{n cap h s:Nat}{G:IntKind}(J:P.underlying t=some (.slice e))(I:∀w:World,(Go.sizeOf e).run P w= .ok s w)(hx:∀a,ev a env x= .slice b n cap)(B:∀a,ev a env hi= .int G (h:Int))(h2:h<=cap):
 OpP P ⟨d,.slice t x none (some hi) none,ty,pos,af,g⟩ env [] (.slice b h cap):=fun a w _=>by
 cases b<;>simp [KV,hx a,B a,Instr.sliceAt,Instr.slice,run_underlying J,Instr.sliceBounds,Instr.sliceBound,asIntOf,h2,I,Addr.add]
theorem C9{b:Option Addr}{n cap l s:Nat}{K:IntKind}(J:P.underlying t=some (.slice e))(I:∀w:World,(Go.sizeOf e).run P w= .ok s w)(hx:∀a,ev a env x= .slice b n cap)(G:∀a,ev a env lo= .int K (l:Int))(B:l<=n):
 OpP P ⟨d,.slice t x (some lo) none none,ty,pos,af,g⟩ env [] (.slice (EY b l cap s) (n -l) (cap -l)):=fun a w _=>by
 simp [KV,hx a,G a,Instr.sliceAt,Instr.slice,run_underlying J,Instr.sliceBounds,Instr.sliceBound,asIntOf,B,I,EY]
theorem Qh{n s:Nat}{cs:Array Value}{j:Nat}{k:IntKind}{v:Value}(K:P.underlying t=some (.array n e))(B:∀w:World,(isAgg e).run P w= .ok false w)(J:∀w:World,(Go.sizeOf e).run P w= .ok s w)(hx:∀a,ev a env x= .agg cs)(I:∀a,ev a env lo= .int k (j:Int))(G:j<n)(hv:cs[j*s]?=some v):
 OpP P ⟨d,.index t x lo,ty,pos,af,g⟩ env [] v:=fun a w _=>by
 simp [vX,hx a,I a,Instr.index,run_underlying K,asIntOf,G,J,part,B,hv]
theorem XD{fs:Array Field}{f:Nat}{fl:Field}{cs:Array Value}{v:Value}(I:P.underlying t=some (.struct fs))(G:fs[f]?=some fl)(B:∀w:World,(isAgg fl.type).run P w= .ok false w)(hx:∀a,ev a env x= .agg cs)(hv:cs[fl.offset]?=some v):
 OpP P ⟨d,.field t x f,ty,pos,af,g⟩ env [] v:=fun a w _=>by
 simp [vY,hx a,Instr.field,run_underlying I,G,part,B,asAgg,hv]
end
section
variable{t:TypeId}{x:Operand}{b i:Nat}{c:Array Value}{T:TypeId}{z:Nat×Nat}
theorem BP{v:Value}(B:∀w:World,(isAgg t).run P w= .ok false w)(hx:∀a,ev a env x= .pointer (some ⟨b,i,none⟩))(hv:c[i]?=some v):OpP P ⟨d,.load t x,ty,pos,af,g⟩ env [(b,.cells c T z)] v:=fun a w h=>by
 have hc:=Cn (h (b,.cells c T z) B0) hv;simp [bK,hx a,Instr.loadAt,Instr.sureAddr,loadVar,B,hc]
theorem A9{n:Nat}{cs:Array Value}(J:∀w:World,(isAgg t).run P w= .ok true w)(O:∀w:World,(Go.sizeOf t).run P w= .ok n w)(hx:∀a,ev a env x= .pointer (some ⟨b,i,none⟩))(hn:i+n<=c.size)(hv:c.extract i (i+n)=cs):OpP P ⟨d,.load t x,ty,pos,af,g⟩ env [(b,.cells c T z)] (.agg cs):=fun a w h=>by
 have K:=h (b,.cells c T z) B0;have I:=run_loadCells_list (P:=P) w ⟨b,i,none⟩ cs.toList (fun j v B=>by
  rw [CY];refine Cn K ?_;rw [<-hv]at B;rw [HH,eM]at B;split at B;· exact B
  · cases B)
 have G:cs.toList.length=n:=by rw [<-hv];simp;omega
 rw [G]at I;simp [bK,hx a,Instr.loadAt,Instr.sureAddr,loadVar,J,O,I]
end
end
end Gw
