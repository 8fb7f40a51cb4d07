/- Walking by chunks: what each operation comes to. No function of the program is named. -/
import Derived.Test.YthhakdmlpngcmaaGreatDoorEx1
import Derived.WalkLawsBesides
set_option linter.unusedVariables false
set_option linter.unusedSimpArgs false
namespace Gw
open Go Go.RowKit
theorem Cr{w:AD}{b i:Nat}{c:AK}{T:AM}{z:Nat×Nat}{v:A4}(h:w.heap[b]?=some (.cells c T z))(hv:c[i]?=some v):w.cell? ⟨b,i,none⟩=some v:=by
 simp [World.cell?,h,hv]
theorem Ca(b o n:Nat):(⟨b,o,none⟩:Addr).add n=⟨b,o+n,none⟩:=by
 unfold Addr.add;split;· rename_i h;subst h;rfl
 · rfl
section
variable(ρ:Operand->A4)(d:Option Nat)(ty:AM)(pos:String)(af:Array Edge)(g:Option (Nat×Bool))
theorem zT(x:Operand):execOp ρ ⟨d,.move x,ty,pos,af,g⟩=pure (.value (ρ x)):=rfl
theorem pM(x:Operand):execOp ρ ⟨d,.assign x,ty,pos,af,g⟩=pure (.value (ρ x)):=rfl
theorem pK(c x y:Operand):execOp ρ ⟨d,.pick c x y,ty,pos,af,g⟩=(do pure (.value (if<-asBool (ρ c)then ρ x else ρ y))):=rfl
theorem wU(t:AM):execOp ρ ⟨d,.alloc t,ty,pos,af,g⟩=(do pure (.value (<-Instr.alloc t true (.tuple #[])))):=rfl
theorem tk(t:AM)(x:Operand):execOp ρ ⟨d,.box t x,ty,pos,af,g⟩=(do pure (.value (<-Instr.box t (ρ x)))):=rfl
theorem wT(t:AM)(ps:Array (Nat×Operand)):execOp ρ ⟨d,.build t ps,ty,pos,af,g⟩=(do pure (.value (<-Instr.build t (ps.map fun(i,x)=>(i,ρ x))))):=rfl
theorem O6(t:AM)(n:Nat)(ps:Array (Nat×Operand)):execOp ρ ⟨d,.buildSlice t n ps,ty,pos,af,g⟩=(do pure (.value (<-Instr.buildSlice t n (ps.map fun(i,x)=>(i,ρ x))))):=rfl
theorem bT(t:AM)(x:Operand):execOp ρ ⟨d,.load t x,ty,pos,af,g⟩=(do pure (.value (<-Instr.loadAt t (ρ x)))):=rfl
theorem RG(t:AM)(x y:Operand):execOp ρ ⟨d,.store t x y,ty,pos,af,g⟩=(do Instr.storeAt t (ρ x) (ρ y);pure .skip):=rfl
theorem Cw(B:BinOp)(t:AM)(x y:Operand)(yt:AM):execOp ρ ⟨d,.binOp B t x y yt,ty,pos,af,g⟩=(do let v<-(do eqGuard B t x y (ρ x) (ρ y);binOp B t (ρ x) (ρ y));pure (.value v)):=rfl
theorem WU(B:UnOp)(t:AM)(x:Operand):execOp ρ ⟨d,.unOp B t x,ty,pos,af,g⟩=(do pure (.value (<-Op.unary B (ρ x)))):=rfl
theorem K4(s t:AM)(x:Operand):execOp ρ ⟨d,.convert s t x,ty,pos,af,g⟩=(do pure (.value (<-convert s t (ρ x)))):=rfl
theorem bS(B:Fn)(p q:Array Operand):execOp ρ ⟨d,.makeFunc B p q,ty,pos,af,g⟩=(do pure (.value (<-Instr.makeFunc B (p.map ρ) (q.map ρ)))):=rfl
theorem QR(t:AM)(l c:Operand):execOp ρ ⟨d,.makeSlice t l c,ty,pos,af,g⟩=(do pure (.value (<-Instr.makeSlice t (ρ l) (ρ c)))):=rfl
theorem Kg(t:AM)(x:Operand)(lo hi B:Option Operand):execOp ρ ⟨d,.slice t x lo hi B,ty,pos,af,g⟩=(do pure (.value (<-Instr.sliceAt t (ρ x) (lo.map ρ) (hi.map ρ) (B.map ρ)))):=rfl
theorem Xy(t:AM)(x:Operand)(f:Nat):execOp ρ ⟨d,.fieldAddr t x f,ty,pos,af,g⟩=(do pure (.value (<-Instr.fieldAt t (ρ x) f))):=rfl
theorem wS(t:AM)(x:Operand)(f:Nat):execOp ρ ⟨d,.field t x f,ty,pos,af,g⟩=(do pure (.value (<-Instr.field t (ρ x) f))):=rfl
theorem IK(t:AM)(x i:Operand):execOp ρ ⟨d,.indexAddr t x i,ty,pos,af,g⟩=(do pure (.value (<-Instr.indexAt t (ρ x) (ρ i)))):=rfl
theorem wR(t:AM)(x i:Operand):execOp ρ ⟨d,.index t x i,ty,pos,af,g⟩=(do pure (.value (<-Instr.index t (ρ x) (ρ i)))):=rfl
theorem kC(x:Operand)(i:Nat):execOp ρ ⟨d,.extract x i,ty,pos,af,g⟩=(do pure (.value (<-Instr.extract (ρ x) i))):=rfl
theorem Dz(c:Call):execOp ρ ⟨d,.call c,ty,pos,af,g⟩=(do let e<-resolve ρ c ty;invoke e.target e.args):=rfl
theorem RV(x:Operand):execOp ρ ⟨d,.nilCheck x,ty,pos,af,g⟩=(match ρ x with
 | .pointer none| .nilIface| .nilFunc=>runtimePanic .nilDeref
 | .func (.method name) first captured=>
   match(first[0]?:Option A4)with
   |some .nilIface=>runtimePanic .nilDeref
   |some (.iface t w)=>do
    if(<-nilAhead ((<-program).types.size+Made.depth) t w name)!=some false then
     unsupported (.noEntry "op/nilCheck.the method's receiver behind this interface value is a nil pointer, or cannot be seen to be none, and the arguments act or may panic (ledger 612)")
    pure (.value (.func (.method name) first captured))
   |_=>pure (.value (.func (.method name) first captured))
 |x=>pure (.value x)):=rfl
end
theorem JC(t:AM)(x y:A4):Op.equal t x y=Op.equalIn (9999+1) t x y:=rfl
section
variable{P:Program}(w:AD){n:Nat}{t e:AM}
theorem LF{p:B8}(B:P.underlying t=some (.pointer e)):(Op.equalIn (n+1) t (.pointer p) (.pointer none)).run P w= .ok p.isNone w:=by
 cases p<;>simp [Op.equalIn,run_underlying B]
theorem XV{p:B8}{a b:Nat}(B:P.underlying t=some (.slice e)):(Op.equalIn (n+1) t (.slice p a b) (.slice none 0 0)).run P w= .ok p.isNone w:=by
 cases p<;>simp [Op.equalIn,run_underlying B]
theorem yP{p q:Bool}(B:P.underlying t=some .bool):(Op.equalIn (n+1) t (.bool p) (.bool q)).run P w= .ok (p==q) w:=by
 simp [Op.equalIn,run_underlying B]
theorem Jp(p q:B8):binOp .eql t (.pointer p) (.pointer q)=(do pure (.bool (<-Op.equal t (.pointer p) (.pointer q)))):=by cases p<;>cases q<;>rfl
theorem Jo(p q:B8):binOp .neq t (.pointer p) (.pointer q)=(do pure (.bool (!(<-Op.equal t (.pointer p) (.pointer q))))):=by cases p<;>cases q<;>rfl
theorem Um(p q:B8)(a b c d:Nat):binOp .eql t (.slice p a b) (.slice q c d)=(do pure (.bool (<-Op.equal t (.slice p a b) (.slice q c d)))):=rfl
theorem Xj(p q:Bool):binOp .eql t (.bool p) (.bool q)=(do pure (.bool (<-Op.equal t (.bool p) (.bool q)))):=rfl
theorem Xi(p q:Bool):binOp .neq t (.bool p) (.bool q)=(do pure (.bool (!(<-Op.equal t (.bool p) (.bool q))))):=rfl
theorem jk(B:BinOp)(s r:Bk):binOp B t (.string s) (.string r)=Op.stringOp B s r:=by cases B<;>rfl
end
section
variable{P:Program}{env:Env}{d:Option Nat}{ty:AM}{pos:String}{af:Array Edge}{g:Option (Nat×Bool)}
theorem AO{x:Operand}{v:A4}(h:∀a,ev a env x=v):OpP P ⟨d,.move x,ty,pos,af,g⟩ env [] v:=fun a w _=>by simp [zT,h a]
theorem Aq{x:Operand}{v:A4}(h:∀a,ev a env x=v):OpP P ⟨d,.assign x,ty,pos,af,g⟩ env [] v:=fun a w _=>by simp [pM,h a]
theorem AX{c x y:Operand}{v:A4}(hc:∀a,ev a env c= .bool true)(h:∀a,ev a env x=v):OpP P ⟨d,.pick c x y,ty,pos,af,g⟩ env [] v:=fun a w _=>by simp [pK,hc a,h a,asBool]
theorem AL{c x y:Operand}{v:A4}(hc:∀a,ev a env c= .bool false)(h:∀a,ev a env y=v):OpP P ⟨d,.pick c x y,ty,pos,af,g⟩ env [] v:=fun a w _=>by simp [pK,hc a,h a,asBool]
theorem eX{x:Operand}{p:Addr}(h:∀a,ev a env x= .pointer (some p)):OpP P ⟨d,.nilCheck x,ty,pos,af,g⟩ env [] (.pointer (some p)):=fun a w _=>by simp [RV,h a]
theorem Q5{x:Operand}{t:AM}{v:A4}(h:∀a,ev a env x= .iface t v):OpP P ⟨d,.nilCheck x,ty,pos,af,g⟩ env [] (.iface t v):=fun a w _=>by simp [RV,h a]
def tC:A4->Bool
 | .pointer (some _)=>true
 | .iface _ _=>true
 |_=>false
theorem Ak{x:Operand}{v:A4}(h:∀a,ev a env x=v)(hv:tC v=true):OpP P ⟨d,.nilCheck x,ty,pos,af,g⟩ env [] v:=by
 unfold tC at hv;split at hv;· exact eX h
 · exact Q5 h
 · cases hv
theorem CE{x:Operand}{i:Nat}{vs:AK}{v:A4}(h:∀a,ev a env x= .tuple vs)(hv:vs[i]?=some v):OpP P ⟨d,.extract x i,ty,pos,af,g⟩ env [] v:=fun a w _=>by simp [kC,h a,Instr.extract,hv]
section
variable{t yt:AM}{x y:Operand}{k:IntKind}{m n c:Int}
theorem Gm(B:∀a,ev a env x= .int k m)(G:∀a,ev a env y= .int k n)(hc:k.wrap (m+n)=c):OpP P ⟨d,.binOp .add t x y yt,ty,pos,af,g⟩ env [] (.int k c):=fun a w _=>by
 simp [Cw,B a,G a,go_sem,hc]
theorem FP(B:∀a,ev a env x= .int k m)(G:∀a,ev a env y= .int k n)(hc:k.wrap (m -n)=c):OpP P ⟨d,.binOp .sub t x y yt,ty,pos,af,g⟩ env [] (.int k c):=fun a w _=>by
 simp [Cw,B a,G a,go_sem,hc]
theorem ry(B:∀a,ev a env x= .int k m)(G:∀a,ev a env y= .int k n)(hc:k.wrap (m*n)=c):OpP P ⟨d,.binOp .mul t x y yt,ty,pos,af,g⟩ env [] (.int k c):=fun a w _=>by
 simp [Cw,B a,G a,go_sem,hc]
theorem Yv(B:∀a,ev a env x= .int k m)(G:∀a,ev a env y= .int k n)(h0:n≠0)(hc:k.wrap (m.tdiv n)=c):OpP P ⟨d,.binOp .quo t x y yt,ty,pos,af,g⟩ env [] (.int k c):=fun a w _=>by
 simp [Cw,B a,G a,go_sem,hc,h0]
theorem ru(B:∀a,ev a env x= .int k m)(G:∀a,ev a env y= .int k n)(h0:n≠0)(hc:m.tmod n=c):OpP P ⟨d,.binOp .rem t x y yt,ty,pos,af,g⟩ env [] (.int k c):=fun a w _=>by
 simp [Cw,B a,G a,go_sem,hc,h0]
theorem sG(B:∀a,ev a env x= .int k m)(G:∀a,ev a env y= .int k n)(hc:bits .and k m n=c):OpP P ⟨d,.binOp .and t x y yt,ty,pos,af,g⟩ env [] (.int k c):=fun a w _=>by
 simp [Cw,B a,G a,go_sem,hc]
theorem pB(B:∀a,ev a env x= .int k m)(G:∀a,ev a env y= .int k n)(hc:bits .or k m n=c):OpP P ⟨d,.binOp .or t x y yt,ty,pos,af,g⟩ env [] (.int k c):=fun a w _=>by
 simp [Cw,B a,G a,go_sem,hc]
theorem zC(B:∀a,ev a env x= .int k m)(G:∀a,ev a env y= .int k n)(hc:bits .xor k m n=c):OpP P ⟨d,.binOp .xor t x y yt,ty,pos,af,g⟩ env [] (.int k c):=fun a w _=>by
 simp [Cw,B a,G a,go_sem,hc]
theorem jG{J:IntKind}(G:∀a,ev a env x= .int k m)(I:∀a,ev a env y= .int J n)(h0:0<=n)(B:n<=k.bits)(hc:k.wrap (m*2^n.toNat)=c):OpP P ⟨d,.binOp .shl t x y yt,ty,pos,af,g⟩ env [] (.int k c):=fun a w _=>by
 simp [Cw,G a,I a,go_sem,shift_shl _ _ _ _ h0 B,hc]
theorem rf{J:IntKind}(G:∀a,ev a env x= .int k m)(I:∀a,ev a env y= .int J n)(h0:0<=n)(B:n<=k.bits)(hc:m/2^n.toNat=c):OpP P ⟨d,.binOp .shr t x y yt,ty,pos,af,g⟩ env [] (.int k c):=fun a w _=>by
 simp [Cw,G a,I a,go_sem,shift_shr _ _ _ _ h0 B,hc]
theorem CP(B:∀a,ev a env x= .int k m)(G:∀a,ev a env y= .int k n):OpP P ⟨d,.binOp .eql t x y yt,ty,pos,af,g⟩ env [] (.bool (decide (m=n))):=fun a w _=>by
 simp [Cw,B a,G a,go_sem];rfl
theorem Im(B:∀a,ev a env x= .int k m)(G:∀a,ev a env y= .int k n):OpP P ⟨d,.binOp .neq t x y yt,ty,pos,af,g⟩ env [] (.bool (decide (m≠n))):=fun a w _=>by
 simp [Cw,B a,G a,go_sem,bne];rfl
theorem EH(B:∀a,ev a env x= .int k m)(G:∀a,ev a env y= .int k n):OpP P ⟨d,.binOp .lss t x y yt,ty,pos,af,g⟩ env [] (.bool (decide (m<n))):=fun a w _=>by
 simp [Cw,B a,G a,go_sem]
theorem NJ(B:∀a,ev a env x= .int k m)(G:∀a,ev a env y= .int k n):OpP P ⟨d,.binOp .leq t x y yt,ty,pos,af,g⟩ env [] (.bool (decide (m<=n))):=fun a w _=>by
 simp [Cw,B a,G a,go_sem]
theorem Ed(B:∀a,ev a env x= .int k m)(G:∀a,ev a env y= .int k n):OpP P ⟨d,.binOp .gtr t x y yt,ty,pos,af,g⟩ env [] (.bool (decide (n<m))):=fun a w _=>by
 simp [Cw,B a,G a,go_sem]
theorem Gj(B:∀a,ev a env x= .int k m)(G:∀a,ev a env y= .int k n):OpP P ⟨d,.binOp .geq t x y yt,ty,pos,af,g⟩ env [] (.bool (decide (n<=m))):=fun a w _=>by
 simp [Cw,B a,G a,go_sem]
theorem jH(B:∀a,ev a env x= .int k m)(hc:k.wrap (0 -m)=c):OpP P ⟨d,.unOp .neg t x,ty,pos,af,g⟩ env [] (.int k c):=fun a w _=>by
 simp [WU,B a,Op.unary,Op.intArith]at hc⊢;exact hc
theorem ue(B:∀a,ev a env x= .int k m)(hc:bits .xor k (if k.signed then-1 else k.max) m=c):OpP P ⟨d,.unOp .xor t x,ty,pos,af,g⟩ env [] (.int k c):=fun a w _=>by
 simp [WU,B a,Op.unary,go_sem,hc]
theorem Bt{b:Bool}(B:∀a,ev a env x= .bool b):OpP P ⟨d,.unOp .not t x,ty,pos,af,g⟩ env [] (.bool (!b)):=fun a w _=>by
 simp [WU,B a,Op.unary]
theorem DD{p:Prop} [G:Decidable p](B:∀a,ev a env x= .bool (decide p)):OpP P ⟨d,.unOp .not t x,ty,pos,af,g⟩ env [] (.bool (decide ¬p)):=fun a w _=>by
 simp [WU,B a,Op.unary]
theorem Eu{s:AM}{B:IntKind}{G:TypeDesc}(I:P.underlying s=some G)(J:P.underlying t=some (.int B))(K:∀a,ev a env x= .int k m)(hc:B.wrap m=c):OpP P ⟨d,.convert s t x,ty,pos,af,g⟩ env [] (.int B c):=fun a w _=>by
 simp [K4,K a,convert,run_underlying I,run_underlying J,Conv.intToInt,hc]
end
theorem EC(n:Nat)(h:n<=9223372036854775807):IntKind.i64.wrap (n:Int)=(n:Int):=IntWalk.i64_in _ A0
section
variable{t yt:AM}{x y:Operand}{m n:Nat}
theorem EA(G:∀a,ev a env x=I4 (m:Int))(I:∀a,ev a env y=I4 (n:Int))(B:m+n<=9223372036854775807):OpP P ⟨d,.binOp .add t x y yt,ty,pos,af,g⟩ env [] (I4 ((m+n:Nat):Int)):=
 Gm G I (by rw [<-Int.natCast_add];exact EC _ B)
theorem CO(G:∀a,ev a env x=I4 (m:Int))(I:∀a,ev a env y=I4 (n:Int))(B:n<=m)(J:m<=9223372036854775807):OpP P ⟨d,.binOp .sub t x y yt,ty,pos,af,g⟩ env [] (I4 ((m -n:Nat):Int)):=
 FP G I (by rw [<-Int.ofNat_sub B];exact EC _ A0)
theorem F8(G:∀a,ev a env x=I4 (m:Int))(I:∀a,ev a env y=I4 (n:Int))(B:m*n<=9223372036854775807):OpP P ⟨d,.binOp .mul t x y yt,ty,pos,af,g⟩ env [] (I4 ((m*n:Nat):Int)):=
 ry G I (by rw [<-ml];exact EC _ B)
theorem KM(G:∀a,ev a env x=I4 (m:Int))(I:∀a,ev a env y=I4 (n:Int))(h0:0<n)(B:m<=9223372036854775807):OpP P ⟨d,.binOp .quo t x y yt,ty,pos,af,g⟩ env [] (I4 ((m/n:Nat):Int)):=
 Yv G I A0 (by rw [show((m:Int).tdiv (n:Int))=((m/n:Nat):Int) from by rw [qn A0];rfl];exact EC _ (Q1 (Nat.div_le_self _ _) B))
theorem FX(B:∀a,ev a env x=I4 (m:Int))(G:∀a,ev a env y=I4 (n:Int))(h0:0<n):OpP P ⟨d,.binOp .rem t x y yt,ty,pos,af,g⟩ env [] (I4 ((m%n:Nat):Int)):=
 ru B G A0 (by rw [Int.tmod_eq_emod_of_nonneg A0];rfl)
theorem Ay{k:IntKind}(B:∀a,ev a env x= .int k (m:Int))(G:∀a,ev a env y= .int k (n:Int)):OpP P ⟨d,.binOp .lss t x y yt,ty,pos,af,g⟩ env [] (.bool (decide (m<n))):=fun a w h=>by
 have:=EH (P:=P) (d:=d) (ty:=ty) (pos:=pos) (af:=af) (g:=g) (t:=t) (yt:=yt) B G a w h;simpa using this
theorem lZ{k:IntKind}(B:∀a,ev a env x= .int k (m:Int))(G:∀a,ev a env y= .int k (n:Int)):OpP P ⟨d,.binOp .leq t x y yt,ty,pos,af,g⟩ env [] (.bool (decide (m<=n))):=fun a w h=>by
 have:=NJ (P:=P) (d:=d) (ty:=ty) (pos:=pos) (af:=af) (g:=g) (t:=t) (yt:=yt) B G a w h;simpa using this
theorem DR{k:IntKind}(B:∀a,ev a env x= .int k (m:Int))(G:∀a,ev a env y= .int k (n:Int)):OpP P ⟨d,.binOp .gtr t x y yt,ty,pos,af,g⟩ env [] (.bool (decide (n<m))):=fun a w h=>by
 have:=Ed (P:=P) (d:=d) (ty:=ty) (pos:=pos) (af:=af) (g:=g) (t:=t) (yt:=yt) B G a w h;simpa using this
theorem Gi{k:IntKind}(B:∀a,ev a env x= .int k (m:Int))(G:∀a,ev a env y= .int k (n:Int)):OpP P ⟨d,.binOp .geq t x y yt,ty,pos,af,g⟩ env [] (.bool (decide (n<=m))):=fun a w h=>by
 have:=Gj (P:=P) (d:=d) (ty:=ty) (pos:=pos) (af:=af) (g:=g) (t:=t) (yt:=yt) B G a w h;simpa using this
theorem Ci{k:IntKind}(B:∀a,ev a env x= .int k (m:Int))(G:∀a,ev a env y= .int k (n:Int)):OpP P ⟨d,.binOp .eql t x y yt,ty,pos,af,g⟩ env [] (.bool (decide (m=n))):=fun a w h=>by
 have:=CP (P:=P) (d:=d) (ty:=ty) (pos:=pos) (af:=af) (g:=g) (t:=t) (yt:=yt) B G a w h;rw [this];simp only [Int.ofNat_inj]
theorem FY{k:IntKind}(B:∀a,ev a env x= .int k (m:Int))(G:∀a,ev a env y= .int k (n:Int)):OpP P ⟨d,.binOp .neq t x y yt,ty,pos,af,g⟩ env [] (.bool (decide (m≠n))):=fun a w h=>by
 have:=Im (P:=P) (d:=d) (ty:=ty) (pos:=pos) (af:=af) (g:=g) (t:=t) (yt:=yt) B G a w h;rw [this];simp only [ne_eq,Int.ofNat_inj]
end
section
variable{t yt:AM}{x y:Operand}
theorem lc{s r:Bk}(B:∀a,ev a env x= .string s)(G:∀a,ev a env y= .string r):OpP P ⟨d,.binOp .eql t x y yt,ty,pos,af,g⟩ env [] (.bool (decide (s=r))):=fun a w _=>by
 simp [Cw,B a,G a,go_sem,jk,Op.stringOp];by_cases h:s=r;· simp [h]
 · simp only [h,al,beq_eq_false_iff_ne,ne_eq]
   intro e;apply h;cases s;cases r;simpa [ByteArray.toList_eq]using e
theorem Ml{s r:Bk}(B:∀a,ev a env x= .string s)(G:∀a,ev a env y= .string r)(I:s.size+r.size<=9223372036854775807):OpP P ⟨d,.binOp .add t x y yt,ty,pos,af,g⟩ env [] (.string (s++r)):=fun a w _=>by
 simp [Cw,B a,G a,go_sem,jk,Op.stringOp];omega
theorem Bh{e:AM}{p:Addr}(B:P.underlying t=some (.pointer e))(G:∀a,ev a env x= .pointer (some p))(I:∀a,ev a env y= .pointer none):OpP P ⟨d,.binOp .eql t x y yt,ty,pos,af,g⟩ env [] (.bool false):=fun a w _=>by
 simp [Cw,G a,I a,go_sem,Jp,Jo,JC,LF _ B]
theorem IG{e:AM}(B:P.underlying t=some (.pointer e))(G:∀a,ev a env x= .pointer none)(I:∀a,ev a env y= .pointer none):OpP P ⟨d,.binOp .eql t x y yt,ty,pos,af,g⟩ env [] (.bool true):=fun a w _=>by
 simp [Cw,G a,I a,go_sem,Jp,Jo,JC,LF _ B]
theorem NH{e:AM}{p:Addr}(B:P.underlying t=some (.pointer e))(G:∀a,ev a env x= .pointer (some p))(I:∀a,ev a env y= .pointer none):OpP P ⟨d,.binOp .neq t x y yt,ty,pos,af,g⟩ env [] (.bool true):=fun a w _=>by
 simp [Cw,G a,I a,go_sem,Jp,Jo,JC,LF _ B]
theorem NI{e:AM}(B:P.underlying t=some (.pointer e))(G:∀a,ev a env x= .pointer none)(I:∀a,ev a env y= .pointer none):OpP P ⟨d,.binOp .neq t x y yt,ty,pos,af,g⟩ env [] (.bool false):=fun a w _=>by
 simp [Cw,G a,I a,go_sem,Jp,Jo,JC,LF _ B]
theorem Dq{e:AM}{p:B8}{n c:Nat}(B:P.underlying t=some (.slice e))(G:∀a,ev a env x= .slice p n c)(I:∀a,ev a env y= .slice none 0 0):OpP P ⟨d,.binOp .eql t x y yt,ty,pos,af,g⟩ env [] (.bool p.isNone):=fun a w _=>by
 simp [Cw,G a,I a,go_sem,Um,JC,XV _ B]
theorem JF{p q:Bool}(B:P.underlying t=some .bool)(G:∀a,ev a env x= .bool p)(I:∀a,ev a env y= .bool q):OpP P ⟨d,.binOp .neq t x y yt,ty,pos,af,g⟩ env [] (.bool (decide (p≠q))):=fun a w _=>by
 simp [Cw,G a,I a,go_sem,Xj,Xi,JC,yP _ B];rfl
end
theorem Ac{x:Operand}{T e:AM}{b:B8}{n c:Nat}(B:P.underlying T=some (.slice e))(G:∀a,ev a env x= .slice b n c):OpP P ⟨d,.call ⟨.builtin .len,#[x],#[T]⟩,ty,pos,af,g⟩ env [] (I4 (n:Int)):=fun a w _=>by
 simp [Dz,resolve,invoke,builtin,G a,Builtin.len_,run_underlying B,goInt]
theorem Qh{x:Operand}{T e:AM}{b:B8}{n c:Nat}(B:P.underlying T=some (.slice e))(G:∀a,ev a env x= .slice b n c):OpP P ⟨d,.call ⟨.builtin .cap,#[x],#[T]⟩,ty,pos,af,g⟩ env [] (I4 (c:Int)):=fun a w _=>by
 simp [Dz,resolve,invoke,builtin,G a,Builtin.cap_,run_underlying B,goInt]
theorem Q8{x:Operand}{T:AM}{s:Bk}(B:P.underlying T=some .string)(G:∀a,ev a env x= .string s):OpP P ⟨d,.call ⟨.builtin .len,#[x],#[T]⟩,ty,pos,af,g⟩ env [] (I4 (s.size:Int)):=fun a w _=>by
 simp [Dz,resolve,invoke,builtin,G a,Builtin.len_,run_underlying B,goInt]
theorem Q6{x y:Operand}{Ts:Array AM}{k:IntKind}{m n:Nat}(B:∀a,ev a env x= .int k (m:Int))(G:∀a,ev a env y= .int k (n:Int)):OpP P ⟨d,.call ⟨.builtin .min,#[x,y],Ts⟩,ty,pos,af,g⟩ env [] (.int k ((min m n:Nat):Int)):=fun a w _=>by
 simp [Dz,resolve,invoke,builtin,B a,G a,Builtin.min_,Builtin.min2];by_cases h:n<m;· simp [h,show min m n=n by omega]
 · simp [h,show min m n=m by omega]
theorem lY{x y:Operand}{Ts:Array AM}{k:IntKind}{m n:Int}(B:∀a,ev a env x= .int k m)(G:∀a,ev a env y= .int k n):OpP P ⟨d,.call ⟨.builtin .min,#[x,y],Ts⟩,ty,pos,af,g⟩ env [] (.int k (min m n)):=fun a w _=>by
 simp [Dz,resolve,invoke,builtin,B a,G a,Builtin.min_,Builtin.min2];by_cases h:n<m;· simp [h,show min m n=n by omega]
 · simp [h,show min m n=m by omega]
section
variable{t e:AM}{x ix:Operand}{b o n cap s:Nat}
theorem Be{k:IntKind}{j:Nat}(I:P.underlying t=some (.slice e))(G:∀w:AD,(Go.sizeOf e).run P w= .ok 1 w)(J:∀a,ev a env x=I6 b n cap)(hi:∀a,ev a env ix= .int k (j:Int))(B:j<n):
 OpP P ⟨d,.indexAddr t x ix,ty,pos,af,g⟩ env [] (.pointer (some ⟨b,j,none⟩)):=fun a w _=>by
 simp [IK,J a,hi a,Instr.indexAt,run_underlying I,asIntOf,G,B,Ca]
theorem CG{k:IntKind}{j:Nat}(I:P.underlying t=some (.slice e))(G:∀w:AD,(Go.sizeOf e).run P w= .ok 1 w)(J:∀a,ev a env x= .slice (some ⟨b,o,none⟩) n cap)(hi:∀a,ev a env ix= .int k (j:Int))(B:j<n):
 OpP P ⟨d,.indexAddr t x ix,ty,pos,af,g⟩ env [] (.pointer (some ⟨b,o+j,none⟩)):=fun a w _=>by
 simp [IK,J a,hi a,Instr.indexAt,run_underlying I,asIntOf,G,B,Ca]
theorem Ae{k:IntKind}{j:Nat}(I:P.underlying t=some (.slice e))(G:∀w:AD,(Go.sizeOf e).run P w= .ok s w)(J:∀a,ev a env x= .slice (some ⟨b,o,none⟩) n cap)(hi:∀a,ev a env ix= .int k (j:Int))(B:j<n):
 OpP P ⟨d,.indexAddr t x ix,ty,pos,af,g⟩ env [] (.pointer (some ⟨b,o+j*s,none⟩)):=fun a w _=>by
 simp [IK,J a,hi a,Instr.indexAt,run_underlying I,asIntOf,G,B,Ca]
theorem Az{k:IntKind}{j:Nat}(I:P.underlying t=some (.array n e))(G:∀w:AD,(Go.sizeOf e).run P w= .ok 1 w)(J:∀a,ev a env x=I5 b)(hi:∀a,ev a env ix= .int k (j:Int))(B:j<n):
 OpP P ⟨d,.indexAddr t x ix,ty,pos,af,g⟩ env [] (.pointer (some ⟨b,j,none⟩)):=fun a w _=>by
 simp [IK,J a,hi a,Instr.indexAt,run_underlying I,asIntOf,G,B,Ca,Instr.sureAddr]
theorem Cu{k:IntKind}{j:Nat}(I:P.underlying t=some (.array n e))(G:∀w:AD,(Go.sizeOf e).run P w= .ok s w)(J:∀a,ev a env x= .pointer (some ⟨b,o,none⟩))(hi:∀a,ev a env ix= .int k (j:Int))(B:j<n):
 OpP P ⟨d,.indexAddr t x ix,ty,pos,af,g⟩ env [] (.pointer (some ⟨b,o+j*s,none⟩)):=fun a w _=>by
 simp [IK,J a,hi a,Instr.indexAt,run_underlying I,asIntOf,G,B,Ca,Instr.sureAddr]
theorem Qg{B:Array Field}{f:Nat}{fl:Field}{m:Nat}(K:P.underlying t=some (.struct B))(G:B[f]?=some fl)(J:∀w:AD,(Go.sizeOf fl.type).run P w= .ok (m+1) w)(O:∀a,ev a env x= .pointer (some ⟨b,o,none⟩)){q:Nat}(I:o+fl.offset=q):
 OpP P ⟨d,.fieldAddr t x f,ty,pos,af,g⟩ env [] (.pointer (some ⟨b,q,none⟩)):=fun a w _=>by
 simp [Xy,O a,Instr.fieldAt,run_underlying K,G,Instr.sureAddr,fieldPlace,J,Ca,I]
end
section
variable{t e:AM}{x lo hi:Operand}
def Ea(b:B8)(l cap s:Nat):B8:=if cap=l then b else b.map (·.add (l*s))
theorem Bq{b:B8}{n cap h s:Nat}{G:IntKind}(J:P.underlying t=some (.slice e))(I:∀w:AD,(Go.sizeOf e).run P w= .ok s w)(K:∀a,ev a env x= .slice b n cap)(B:∀a,ev a env hi= .int G (h:Int))(h2:h<=cap):
 OpP P ⟨d,.slice t x none (some hi) none,ty,pos,af,g⟩ env [] (.slice b h cap):=fun a w _=>by
 cases b<;>simp [Kg,K a,B a,Instr.sliceAt,Instr.slice,run_underlying J,Instr.sliceBounds,Instr.sliceBound,asIntOf,h2,I,Addr.add]
theorem C8{b:B8}{n cap l s:Nat}{O:IntKind}(J:P.underlying t=some (.slice e))(I:∀w:AD,(Go.sizeOf e).run P w= .ok s w)(K:∀a,ev a env x= .slice b n cap)(G:∀a,ev a env lo= .int O (l:Int))(B:l<=n):
 OpP P ⟨d,.slice t x (some lo) none none,ty,pos,af,g⟩ env [] (.slice (Ea b l cap s) (n -l) (cap -l)):=fun a w _=>by
 simp [Kg,K a,G a,Instr.sliceAt,Instr.slice,run_underlying J,Instr.sliceBounds,Instr.sliceBound,asIntOf,B,I,Ea]
theorem Qf{n s:Nat}{cs:AK}{j:Nat}{k:IntKind}{v:A4}(K:P.underlying t=some (.array n e))(B:∀w:AD,(isAgg e).run P w= .ok false w)(J:∀w:AD,(Go.sizeOf e).run P w= .ok s w)(O:∀a,ev a env x= .agg cs)(I:∀a,ev a env lo= .int k (j:Int))(G:j<n)(hv:cs[j*s]?=some v):
 OpP P ⟨d,.index t x lo,ty,pos,af,g⟩ env [] v:=fun a w _=>by
 simp [wR,O a,I a,Instr.index,run_underlying K,asIntOf,G,J,part,B,hv]
theorem XB{B:Array Field}{f:Nat}{fl:Field}{cs:AK}{v:A4}(J:P.underlying t=some (.struct B))(I:B[f]?=some fl)(G:∀w:AD,(isAgg fl.type).run P w= .ok false w)(K:∀a,ev a env x= .agg cs)(hv:cs[fl.offset]?=some v):
 OpP P ⟨d,.field t x f,ty,pos,af,g⟩ env [] v:=fun a w _=>by
 simp [wS,K a,Instr.field,run_underlying J,I,part,G,asAgg,hv]
end
section
variable{t:AM}{x:Operand}{b i:Nat}{c:AK}{T:AM}{z:Nat×Nat}
theorem BF{v:A4}(B:∀w:AD,(isAgg t).run P w= .ok false w)(G:∀a,ev a env x= .pointer (some ⟨b,i,none⟩))(hv:c[i]?=some v):OpP P ⟨d,.load t x,ty,pos,af,g⟩ env [(b,.cells c T z)] v:=fun a w h=>by
 have hc:=Cr (h (b,.cells c T z) B4) hv;simp [bT,G a,Instr.loadAt,Instr.sureAddr,loadVar,B,hc]
theorem AB{n:Nat}{cs:AK}(J:∀w:AD,(isAgg t).run P w= .ok true w)(O:∀w:AD,(Go.sizeOf t).run P w= .ok n w)(U:∀a,ev a env x= .pointer (some ⟨b,i,none⟩))(W:i+n<=c.size)(hv:c.extract i (i+n)=cs):OpP P ⟨d,.load t x,ty,pos,af,g⟩ env [(b,.cells c T z)] (.agg cs):=fun a w h=>by
 have K:=h (b,.cells c T z) B4;have I:=run_loadCells_list (P:=P) w ⟨b,i,none⟩ cs.toList (fun j v B=>by
  rw [Ca];refine Cr K ?_;rw [<-hv]at B;rw [HQ,cL]at B;split at B;· exact B
  · cases B)
 have G:cs.toList.length=n:=by rw [<-hv];simp;omega
 rw [G]at I;simp [bT,U a,Instr.loadAt,Instr.sureAddr,loadVar,J,O,I]
end
end
end Gw
