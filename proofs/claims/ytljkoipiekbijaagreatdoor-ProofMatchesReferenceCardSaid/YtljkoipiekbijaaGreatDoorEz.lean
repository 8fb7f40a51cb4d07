/- Short forms of the laws of the chunk walk: what every step repeats is a default here. No function of the program is named. -/
import Derived.Test.YtljkoipiekbijaaGreatDoorEx5
set_option linter.unusedVariables false
set_option linter.unusedSimpArgs false
namespace Gw
open Go Go.RowKit
theorem Y{α β:Type}{f:α->β}:∀a,f a=f a:=fun _=>rfl
def WJ(env:Env)(sl:List Nat)(e:Env):Prop:=∀a,KM a env sl=e
theorem Pz{env:Env}:WJ env [] []:=fun _=>rfl
theorem O0{env:Env}{t:Nat}{v:A3}{l:List Nat}{e:Env}(h:∀a,FC a env t=v)(h2:WJ env l e):WJ env (t::l) ((t,v)::e):=fun a=>by
 simp only [KM];rw [h a,h2 a]
theorem Zb{P:Program}{cx:Cx}{c:Code}{Q:Exit->Act->AD->Prop}{env m:Env}{H:Hp}(y:List Nat)(h:At P cx c Q m H)(hn:y.all (fun t=>Nat.blt t cx.N)=true:=by exact rfl)(z:WJ env y m:=by repeat(first|exact Pz|(apply O0;exact fun _=>rfl))):At P cx c Q env H:=sZ y hn z h
theorem Zn{cx:Cx}{Q:Act->AD->Prop}{env m:Env}{H:Hp}(y:List Nat)(h:Nx cx Q m H)(hn:y.all (fun t=>Nat.blt t cx.N)=true:=by exact rfl)(z:WJ env y m:=by repeat(first|exact Pz|(apply O0;exact fun _=>rfl))):Nx cx Q env H:=pY y hn z h
section
variable{P:Program}{cx:Cx}{Q:Exit->Act->AD->Prop}{env:Env}{H:Hp}
theorem Zq{x y:Code}(h:At P cx x (Exit.then (y.wpIn (Fx cx.r) 0 P Q) Q) env H):At P cx (.seq x y) Q env H:=zA h
theorem Zx{y:Code}(h:At P cx y Q env H):Nx cx ((Exit.then (y.wpIn (Fx cx.r) 0 P Q) Q) .normal) env H:=vC h
theorem Zt{K:Act->AD->Prop}{e:Exit}(h:Nx cx (Q e) env H)(m:e≠ .normal:=by(intro h;cases h;done)):Nx cx (Exit.then K Q e) env H:=vB m h
theorem Zg{id:Nat}{ops:Array Oper}(h:Ops P ops ops.toList cx Q env H):At P cx (.region id ops false) Q env H:=mW h
end
section
variable{P:Program}{ops:Array Oper}{l:List Oper}{cx:Cx}{Q:Exit->Act->AD->Prop}{env:Env}{H:Hp}{ty:An}{pos:String}{af:Array Edge}
theorem Z0(h:Nx cx (Q .normal) env H):Ops P ops [] cx Q env H:=uy h
theorem Zm{d:Nat}{x:Operand}{v:A3}(hx:∀a,ev a env x=v)(k:Ops P ops l cx Q ((d,v)::env) H)(m:Nat.blt d cx.N=true:=by exact rfl):Ops P ops (⟨some d,.move x,ty,pos,af,none⟩::l) cx Q env H:=KH (AA hx) rfl m k
theorem Za{d:Nat}{x:Operand}{v:A3}(hx:∀a,ev a env x=v)(k:Ops P ops l cx Q ((d,v)::env) H)(m:Nat.blt d cx.N=true:=by exact rfl):Ops P ops (⟨some d,.assign x,ty,pos,af,none⟩::l) cx Q env H:=KH (Aq hx) rfl m k
theorem Zp{d:Nat}{x:Operand}{v:A3}(hx:∀a,ev a env x=v)(hv:qB v=true)(k:Ops P ops l cx Q ((d,v)::env) H)(m:Nat.blt d cx.N=true:=by exact rfl):Ops P ops (⟨some d,.nilCheck x,ty,pos,af,none⟩::l) cx Q env H:=KH (EY hx hv) rfl m k
theorem Zd{d:Nat}{x:Operand}{i:Nat}{vs:As}{v:A3}(hx:∀a,ev a env x= .tuple vs)(hv:vs[i]?=some v)(k:Ops P ops l cx Q ((d,v)::env) H)(m:Nat.blt d cx.N=true:=by exact rfl):Ops P ops (⟨some d,.extract x i,ty,pos,af,none⟩::l) cx Q env H:=KH (Bn hx hv) rfl m k
theorem Zv{d:Nat}{m:Op}{v:A3}(h:OpP P ⟨some d,m,ty,pos,af,none⟩ env [] v)(k:Ops P ops l cx Q ((d,v)::env) H)(hn:EB m=true:=by exact rfl)(y:Nat.blt d cx.N=true:=by exact rfl):Ops P ops (⟨some d,m,ty,pos,af,none⟩::l) cx Q env H:=KH h hn y k
theorem Zf{d:Nat}{g:Nat×Bool}{x:Operand}{v:A3}(y:∀a,wantedE ops a env (some g)=true)(hx:∀a,ev a env x=v)(k:Ops P ops l cx Q ((d,v)::env) H)(m:Nat.blt d cx.N=true:=by exact rfl):Ops P ops (⟨some d,.move x,ty,pos,af,some g⟩::l) cx Q env H:=ER y (AA hx) rfl m k
theorem Zh{d:Nat}{fs:Array Field}{fl:Field}{t:An}{x:Operand}{f b m:Nat}(off:Nat)(I:P.underlying t=some (.struct fs))(z:fs[f]?=some fl)(E:fl.offset=off)(G:∀w:AD,(Go.sizeOf fl.type).run P w= .ok (m+1) w)(hx:∀a,ev a env x=I5 b)(k:Ops P ops l cx Q ((d,.pointer (some ⟨b,off,none⟩))::env) H)(y:Nat.blt d cx.N=true:=by exact rfl):Ops P ops (⟨some d,.fieldAddr t x f,ty,pos,af,none⟩::l) cx Q env H:=KH (AL I z E G hx) rfl y k
theorem Zl{d:Nat}{t:An}{x:Operand}{b i:Nat}{c:As}{T:An}{z:Nat×Nat}{v:A3}(m:∀w:AD,(isAgg t).run P w= .ok false w)(hx:∀a,ev a env x= .pointer (some ⟨b,i,none⟩))(k:Ops P ops l cx Q ((d,v)::env) H)(y:Has b (.cells c T z) H:=by(repeat(first|exact Has.here _|apply Has.there));done)(hv:c[i]?=some v:=by rfl)(E:Nat.blt d cx.N=true:=by exact rfl):Ops P ops (⟨some d,.load t x,ty,pos,af,none⟩::l) cx Q env H:=mv y (BZ m hx hv) rfl E k
theorem Yl{d:Nat}{g:Nat×Bool}{t:An}{x:Operand}{b i:Nat}{c:As}{T:An}{z:Nat×Nat}{v:A3}(m:∀w:AD,(isAgg t).run P w= .ok false w)(hx:∀a,ev a env x= .pointer (some ⟨b,i,none⟩))(k:Ops P ops l cx Q ((d,v)::env) H)(y:Has b (.cells c T z) H:=by(repeat(first|exact Has.here _|apply Has.there));done)(hv:c[i]?=some v:=by rfl)(G:∀a,wantedE ops a env (some g)=true:=by exact fun _=>rfl)(E:Nat.blt d cx.N=true:=by exact rfl):Ops P ops (⟨some d,.load t x,ty,pos,af,some g⟩::l) cx Q env H:=DK G y (BZ m hx hv) rfl E k
theorem Yf{d:Nat}{g:Nat×Bool}{fs:Array Field}{fl:Field}{t:An}{x:Operand}{f b m:Nat}(off:Nat)(J:P.underlying t=some (.struct fs))(z:fs[f]?=some fl)(G:fl.offset=off)(I:∀w:AD,(Go.sizeOf fl.type).run P w= .ok (m+1) w)(hx:∀a,ev a env x=I5 b)(k:Ops P ops l cx Q ((d,.pointer (some ⟨b,off,none⟩))::env) H)(E:∀a,wantedE ops a env (some g)=true:=by exact fun _=>rfl)(y:Nat.blt d cx.N=true:=by exact rfl):Ops P ops (⟨some d,.fieldAddr t x f,ty,pos,af,some g⟩::l) cx Q env H:=ER E (AL J z G I hx) rfl y k
theorem Yg{d:Nat}{g:Nat×Bool}{m:Op}{v:A3}(h:OpP P ⟨some d,m,ty,pos,af,some g⟩ env [] v)(k:Ops P ops l cx Q ((d,v)::env) H)(z:∀a,wantedE ops a env (some g)=true:=by exact fun _=>rfl)(hn:EB m=true:=by exact rfl)(y:Nat.blt d cx.N=true:=by exact rfl):Ops P ops (⟨some d,m,ty,pos,af,some g⟩::l) cx Q env H:=ER z h hn y k
theorem Ya{d:Nat}{t yt:An}{x y:Operand}{m n:Nat}(hx:∀a,ev a env x=I4 (m:Int))(hy:∀a,ev a env y=I4 (n:Int))(k:Ops P ops l cx Q ((d,I4 ((m+n:Nat):Int))::env) H)(z:m+n<=9223372036854775807:=by omega)(E:Nat.blt d cx.N=true:=by exact rfl):Ops P ops (⟨some d,.binOp .add t x y yt,ty,pos,af,none⟩::l) cx Q env H:=KH (Ce hx hy z) rfl E k
theorem Yi{d:Nat}{t yt:An}{x y:Operand}{m n:Int}(hx:∀a,ev a env x=I4 m)(hy:∀a,ev a env y=I4 n)(k:Ops P ops l cx Q ((d,I4 (m+n))::env) H)(z:-9223372036854775808<=m+n/\m+n<=9223372036854775807:=by omega)(E:Nat.blt d cx.N=true:=by exact rfl):Ops P ops (⟨some d,.binOp .add t x y yt,ty,pos,af,none⟩::l) cx Q env H:=KH (Fw hx hy (IntWalk.i64_in _ z)) rfl E k
theorem Yb{d:Nat}{t yt:An}{x y:Operand}{m n:Nat}(hx:∀a,ev a env x=I4 (m:Int))(hy:∀a,ev a env y=I4 (n:Int))(k:Ops P ops l cx Q ((d,I4 ((m -n:Nat):Int))::env) H)(z:n<=m:=by omega)(G:m<=9223372036854775807:=by omega)(E:Nat.blt d cx.N=true:=by exact rfl):Ops P ops (⟨some d,.binOp .sub t x y yt,ty,pos,af,none⟩::l) cx Q env H:=KH (C8 hx hy z G) rfl E k
theorem Zo{d:Nat}{m:Op}{v:A3}{b:Nat}{o:Obj}(y:Has b o H)(h:OpP P ⟨some d,m,ty,pos,af,none⟩ env [(b,o)] v)(k:Ops P ops l cx Q ((d,v)::env) H)(hn:EB m=true:=by exact rfl)(z:Nat.blt d cx.N=true:=by exact rfl):Ops P ops (⟨some d,m,ty,pos,af,none⟩::l) cx Q env H:=mv y h hn z k
end
section
variable{P:Program}{u:AD}{ops:Array Oper}{l:List Oper}{cx:Cx}{Qe:Exit->Act->AD->Prop}{env:Env}{H H' R:Hp}{d:Option Nat}{ty:An}{pos:String}{af:Array Edge}{g:Option (Nat×Bool)}
theorem Ze{m:Op}{y:A3->Hp->Prop}(h:OpW P cx.u ⟨d,m,ty,pos,af,g⟩ env H y (fun _ _=>False))(k:∀v H',y v H'->Ops P ops l cx Qe (putE d v env) H')(E:∀a,wantedE ops a env g=true:=by exact fun _=>rfl)(hn:EB m=true:=by exact rfl)(z:UR cx.N d=true:=by exact rfl):Ops P ops (⟨d,m,ty,pos,af,g⟩::l) cx Qe env H:=uz h E hn z k
theorem Xe{m:Op}{y:A3}{H0:Hp}(h:OpW P cx.u ⟨d,m,ty,pos,af,g⟩ env H (fun v H'=>v=y/\H'=H0) (fun _ _=>False))(k:Ops P ops l cx Qe (putE d y env) H0)(E:∀a,wantedE ops a env g=true:=by exact fun _=>rfl)(hn:EB m=true:=by exact rfl)(z:UR cx.N d=true:=by exact rfl):Ops P ops (⟨d,m,ty,pos,af,g⟩::l) cx Qe env H:=uz h E hn z (by rintro _ _ ⟨rfl,rfl⟩;exact k)
theorem Zw(vs:List A3){J:Operand}{I:Array Operand}{y:Array An}{f:FuncId}{first m args:As}{E:Hp}{Q:A3->Hp->Prop}{G:List PanicEntry->Hp->Prop}
 (U:∀a,ev a env J= .func (.func f) first m)(hc:∀(args:As) (w:AD),(callFunc f args).run P w= .ok (.enter f args) w)(O:∀a,I.toList.map (ev a env)=vs)(M:(first.toList++vs++m.toList).toArray=args)
 (z:KG P f args E Q G)(W:FX E H R:=by repeat(first|exact FX.nil _|(apply FX.cons;(focus (repeat(first|exact One.here _ _|apply One.there)))))):
 OpW P u ⟨d,.call ⟨.value J,I,y⟩,ty,pos,af,g⟩ env H (fun v H'=>∃H1,Q v H1/\H'=H1++R) (fun ch H'=>∃H1,G ch H1/\H'=H1++R):=Jw U hc O M z W
theorem Zu(vs:List A3){I:Operand}{G:Array Operand}{y:Array An}{f:FuncId}{first m args:As}{E:Hp}{v:A3}
 (O:∀a,ev a env I= .func (.func f) first m)(hc:∀(args:As) (w:AD),(callFunc f args).run P w= .ok (.enter f args) w)(M:∀a,G.toList.map (ev a env)=vs)(J:(first.toList++vs++m.toList).toArray=args)
 (z:BB P f args E v)(U:FX E H R:=by repeat(first|exact FX.nil _|(apply FX.cons;(focus (repeat(first|exact One.here _ _|apply One.there)))))):
 OpW P u ⟨d,.call ⟨.value I,G,y⟩,ty,pos,af,g⟩ env H (fun W H'=>W=v/\H'=H) (fun _ _=>False):=WQ O hc M J z U
theorem Zc(vs:List A3){I:Operand}{G:Array Operand}{y:Array An}{f:FuncId}{first m args:As}{E:Hp}{Q:A3->Hp->Prop}
 (U:∀a,ev a env I= .func (.func f) first m)(hc:∀(args:As) (w:AD),(callFunc f args).run P w= .ok (.enter f args) w)(M:∀a,G.toList.map (ev a env)=vs)(J:(first.toList++vs++m.toList).toArray=args)
 (z:KG P f args E Q fun _ _=>False)(k:∀v H',(∃H1,Q v H1/\H'=H1++R)->Ops P ops l cx Qe (putE d v env) H')(X:FX E H R:=by repeat(first|exact FX.nil _|(apply FX.cons;(focus (repeat(first|exact One.here _ _|apply One.there))))))(W:∀a,wantedE ops a env g=true:=by exact fun _=>rfl)(O:UR cx.N d=true:=by exact rfl):
 Ops P ops (⟨d,.call ⟨.value I,G,y⟩,ty,pos,af,g⟩::l) cx Qe env H:=HY W (Gr O) rfl (Jw U hc M J z X) k DC
theorem Zr(vs:List A3){I:Operand}{G:Array Operand}{y:Array An}{f:FuncId}{first m args:As}{E:Hp}{v:A3}
 (W:∀a,ev a env I= .func (.func f) first m)(hc:∀(args:As) (w:AD),(callFunc f args).run P w= .ok (.enter f args) w)(O:∀a,G.toList.map (ev a env)=vs)(M:(first.toList++vs++m.toList).toArray=args)
 (z:BB P f args E v)(k:∀J H',J=v/\H'=H->Ops P ops l cx Qe (putE d J env) H')(Z:FX E H R:=by repeat(first|exact FX.nil _|(apply FX.cons;(focus (repeat(first|exact One.here _ _|apply One.there))))))(X:∀a,wantedE ops a env g=true:=by exact fun _=>rfl)(U:UR cx.N d=true:=by exact rfl):
 Ops P ops (⟨d,.call ⟨.value I,G,y⟩,ty,pos,af,g⟩::l) cx Qe env H:=uz (WQ W hc O M z Z) X rfl U k
theorem Xr(vs:List A3){I:Operand}{G:Array Operand}{y:Array An}{f:FuncId}{first m args:As}{E:Hp}{v:A3}
 (U:∀a,ev a env I= .func (.func f) first m)(hc:∀(args:As) (w:AD),(callFunc f args).run P w= .ok (.enter f args) w)(M:∀a,G.toList.map (ev a env)=vs)(J:(first.toList++vs++m.toList).toArray=args)
 (z:BB P f args E v)(k:Ops P ops l cx Qe (putE d v env) H)(X:FX E H R:=by repeat(first|exact FX.nil _|(apply FX.cons;(focus (repeat(first|exact One.here _ _|apply One.there))))))(W:∀a,wantedE ops a env g=true:=by exact fun _=>rfl)(O:UR cx.N d=true:=by exact rfl):
 Ops P ops (⟨d,.call ⟨.value I,G,y⟩,ty,pos,af,g⟩::l) cx Qe env H:=uz (WQ U hc M J z X) W rfl O (by rintro _ _ ⟨rfl,rfl⟩;exact k)
theorem Zs{t:An}{x y:Operand}{b i:Nat}{c c':As}{T:An}{z:Nat×Nat}{v:A3}(E:∀w:AD,(Go.sizeOf t).run P w= .ok 1 w)(hx:∀a,ev a env x= .pointer (some ⟨b,i,none⟩))(hy:∀a,ev a env y=v)(m:v.oneCell'=true)
 (G:Upd b (.cells c T z) (.cells c' T z) H H':=by repeat(first|exact Upd.here _|apply Upd.there))(hc:c.setIfInBounds i v=c':=by rfl)(hi:i<c.size:=by first|decide|exact B4 _|(simp;done)|(simp;omega))(hz:M6 z c.size:=by exact Aw _):
 OpW P u ⟨d,.store t x y,ty,pos,af,g⟩ env H (fun I H1=>I=undef/\H1=H') (fun _ _=>False):=uC E hx hy m G hc hi hz
end
section
variable{P:Program}{ops:Array Oper}{A:List Nat}{F:Nat}{cx:Cx}{Q:Exit->Act->AD->Prop}{n D:Nat}{T:List (Nat×AR)}{env:Env}{H:Hp}{ty:An}{pos:String}{af:Array Edge}
theorem Yk{o:Oper}(D' i:Nat)(E:ops[i]?=some o)(k:Lin P ops A F cx Q n D' T (putE o.dst undef env) H)(z:∀a,wantedE ops a env o.guard=false:=by exact fun _=>rfl)(m:(!bit D i&&FL (A.getD i 0) D)=true:=by exact rfl)(y:D|||(1<<<i)=D':=by exact rfl):Lin P ops A F cx Q (n+1) D T env H:=qN i E z m y k
theorem Zi{d:Nat}{y:Op}{v:A3}(D' i:Nat)(G:ops[i]?=some ⟨some d,y,ty,pos,af,none⟩)(m:OpP P ⟨some d,y,ty,pos,af,none⟩ env [] v)(k:Lin P ops A F cx Q n D' T ((d,v)::env) H)(z:(!bit F i&&!bit D i&&FL (A.getD i 0) D)=true:=by exact rfl)(E:D|||(1<<<i)=D':=by exact rfl):Lin P ops A F cx Q (n+1) D T env H:=xD i G z E m k
theorem Zj{d:Nat}{t:An}{x:Operand}{b j:Nat}{c:As}{U:An}{z:Nat×Nat}{v:A3}(D' i:Nat)(I:ops[i]?=some ⟨some d,.load t x,ty,pos,af,none⟩)(E:∀w:AD,(isAgg t).run P w= .ok false w)(hx:∀a,ev a env x= .pointer (some ⟨b,j,none⟩))(k:Lin P ops A F cx Q n D' ((i,(b,.cells c U z))::T) ((d,v)::env) H)
 (G:Has b (.cells c U z) H:=by repeat(first|exact Has.here _|apply Has.there))(hv:c[j]?=some v:=by rfl)(m:(!bit F i&&!bit D i&&FL (A.getD i 0) D)=true:=by exact rfl)(y:D|||(1<<<i)=D':=by exact rfl):Lin P ops A F cx Q (n+1) D T env H:=Cs i I m y G (BZ E hx hv) k
theorem Zk{H:Hp}{i b:Nat}{x:Obj}{T:List (Nat×AR)}(m:∀p∈T,p.2∈H.flatten)(h:Has b x H:=by repeat(first|exact Has.here _|apply Has.there)):∀p∈((i,(b,x))::T),p.2∈H.flatten:=lF h m
theorem Zy{f:Nat}{l:List Nat}{o:Oper}{I:A3->Hp->Prop}{G:List PanicEntry->Hp->Prop}(m D':Nat)(is:List Nat)(bs:List Bool)(y:List (Nat×AR))(X:ops[f]?=some o)(O:∀a,wantedE ops a env o.guard=true)(J:D|||(1<<<f)=D')(W:A[f]?=some m)(z:T.map (·.1)=is)(M:sel bs T=y)(Z:OpW P cx.u o env H I G)
 (k:∀v H',I v H'->(∀p∈y,p.2∈H'.flatten)/\Lin P ops A F cx Q n D' y (putE o.dst v env) H')(kp:∀ch H',G ch H'->∀env,Nx cx (Q (.panic ch)) env H')(U:Xg P ops A F cx Q n D T env H l)(E:Ot m bs is=true:=by kernel_rfl):Xg P ops A F cx Q n D T env H (f::l):=WB X O J W z E M Z k kp U
theorem Zz{l:List Nat}(h:Xg P ops A F cx Q n D T env H l)(m:lW ops A F D=true:=by kernel_rfl)(h2:Ll ops A F D=l:=by kernel_rfl):Lin P ops A F cx Q (n+1) D T env H:=XB m h2 h
theorem Yz(f:Nat){o:Oper}{G:A3->Hp->Prop}(m D':Nat)(is:List Nat)(bs:List Bool)(y:List (Nat×AR))(W:ops[f]?=some o)(O:∀a,wantedE ops a env o.guard=true)(J:D|||(1<<<f)=D')(U:A[f]?=some m)(z:T.map (·.1)=is)(M:sel bs T=y)(X:OpW P cx.u o env H G (fun _ _=>False))
 (k:∀v H',G v H'->(∀p∈y,p.2∈H'.flatten)/\Lin P ops A F cx Q n D' y (putE o.dst v env) H')(E:Ot m bs is=true:=by kernel_rfl)(I:lW ops A F D=true:=by kernel_rfl)(h2:Ll ops A F D=[f]:=by kernel_rfl):Lin P ops A F cx Q (n+1) D T env H:=XB I h2 (WB W O J U z E M X k (fun _ _ h=>h.elim) Ar)
end
theorem Wh{b:Nat}{o:Obj}{H:Hp}(h:Has b o H:=by repeat(first|exact Has.here _|apply Has.there)):Has b o H:=h
theorem Wu{b:Nat}{x y:Obj}{H H':Hp}(h:Upd b x y H H':=by repeat(first|exact Upd.here _|apply Upd.there)):Upd b x y H H':=h
theorem Wo{s:List AR}{H R:Hp}(h:One s H R:=by repeat(first|exact One.here _ _|apply One.there)):One s H R:=h
theorem Wp{G H R:Hp}(h:FX G H R:=by repeat(first|exact FX.nil _|(apply FX.cons;(focus (repeat(first|exact One.here _ _|apply One.there)))))):FX G H R:=h
theorem Wb{p:Prop}(h:p:=by first|omega|decide|(simp;done)):p:=h
theorem Wn{p:Prop}(h:p:=by first|decide|exact B4 _|(simp;done)|(simp;omega)):p:=h
def skF:Env->Nat->Option A3
 |[],_=>none
 |(d,v)::e,t=>match Nat.beq t d with
  |true=>some v
  |false=>skF e t
def skX(e:Env):Operand->Option A3
 | .tmp t=>skF e t
 | .const v=>some v
 |_=>none
def skV(e:Env):Op->Option A3
 | .move x=>skX e x
 | .assign x=>skX e x
 | .pick c x y=>match skX e c with
   |some (.bool true)=>skX e x
   |some (.bool false)=>skX e y
   |_=>none
 | .extract x i=>match skX e x with
   |some (.tuple vs)=>vs[i]?
   |_=>none
 |_=>none
def skG(ops:Array Oper)(e:Env):Option (Nat×Bool)->Option Bool
 |none=>some true
 |some (g,want)=>match(ops[g]?).bind (·.dst)with
  |none=>none
  |some t=>match skF e t with
   |some (.bool true)=>some want
   |some (.bool false)=>some (!want)
   |some (.tuple _)=>some false
   |_=>none
def skR(ops:Array Oper)(N:Nat):Nat->List Oper->Env->Option (List Oper×Env)
 |0,l,e=>some (l,e)
 |n+1,o::l,e=>match skG ops e o.guard,o.dst with
  |some false,some d=>match Nat.blt d N with
   |true=>skR ops N n l ((d,undef)::e)
   |false=>none
  |some false,none=>skR ops N n l e
  |some true,some d=>match skV e o.op,Nat.blt d N with
   |some v,true=>skR ops N n l ((d,v)::e)
   |_,_=>none
  |_,_=>none
 |_+1,[],_=>none
theorem WX{e:Env}{t:Nat}{v:A3}(h:skF e t=some v)(a:Act):FC a e t=v:=by
 induction e with
 |nil=>cases h
 |cons p e ih=>
  obtain ⟨d,u⟩:=p;unfold skF at h;unfold FC;split at h;· rename_i h9;rw [h9];injection h
  · rename_i h9;rw [h9];exact ih h
theorem O1{e:Env}{x:Operand}{v:A3}(h:skX e x=some v)(a:Act):ev a e x=v:=by
 unfold skX at h;split at h;· exact WX h a
 · injection h
 · cases h
theorem xn{P:Program}{d:Option Nat}{ty:An}{pos:String}{af:Array Edge}{g:Option (Nat×Bool)}{e:Env}{m:Op}{v:A3}(h:skV e m=some v):OpP P ⟨d,m,ty,pos,af,g⟩ e [] v/\EB m=true:=by
 unfold skV at h;split at h;· exact ⟨AA (O1 h),rfl⟩
 · exact ⟨Aq (O1 h),rfl⟩
 · split at h
   · rename_i h9;exact ⟨Ay (O1 h9) (O1 h),rfl⟩
   · rename_i h9;exact ⟨BC (O1 h9) (O1 h),rfl⟩
   · cases h
 · split at h
   · rename_i h9;exact ⟨Bn (O1 h9) h,rfl⟩
   · cases h
 · cases h
theorem bO{ops:Array Oper}{e:Env}{g:Option (Nat×Bool)}{b:Bool}(h:skG ops e g=some b)(a:Act):wantedE ops a e g=b:=by
 match g,h with
 |none,h=>injection h
 |some (g,want),h=>
  show yieldE ops a e g want=b;unfold skG at h;simp only at h;unfold yieldE;split at h;· cases h
  · rename_i h9
    rw [h9];simp only;split at h;· rename_i h8;rw [WX h8 a];injection h with h;subst h;simp
    · rename_i h8;rw [WX h8 a];injection h with h;subst h;cases want<;>rfl
    · rename_i h8;rw [WX h8 a];injection h
    · cases h
theorem WW{P:Program}{ops:Array Oper}{cx:Cx}{Q:Exit->Act->AD->Prop}{H:Hp}:∀(n:Nat) {l l':List Oper} {e e':Env},skR ops cx.N n l e=some (l',e')->Ops P ops l' cx Q e' H->Ops P ops l cx Q e H
 |0,l,l',e,e',h,k=>by
  injection h with h;injection h with h1 h2;subst h1 h2;exact k
 |n+1,[],l',e,e',h,k=>by cases h
 |n+1,⟨dst,op,ty,pos,af,g⟩::l,l',e,e',h,k=>by
  unfold skR at h;split at h
  · rename_i h9 h8
    simp only at h9 h8;subst h8;split at h
    · rename_i h7
      have m:=WW n h k;cases g with
      |none=>cases h9
      |some g=>exact PL (bO h9) h7 m
    · cases h
  · rename_i h9 h8
    simp only at h9 h8;subst h8;have m:=WW n h k
    cases g with
    |none=>cases h9
    |some g=>exact PL (bO h9) rfl m
  · rename_i h9 h8
    simp only at h9 h8;subst h8;split at h
    · rename_i h7 h6
      have m:=WW n h k;obtain ⟨z,y⟩:=xn (P:=P) (d:=some _) (ty:=ty) (pos:=pos) (af:=af) (g:=g) h7;cases g with
      |none=>exact KH z y h6 m
      |some g=>exact ER (bO h9) z y h6 m
    · cases h
  · cases h
theorem Sk{P:Program}{ops:Array Oper}{l m:List Oper}{cx:Cx}{Q:Exit->Act->AD->Prop}{e e':Env}{H:Hp}(n:Nat)(h:skR ops cx.N n l e=some (m,e'))(k:Ops P ops m cx Q e' H):Ops P ops l cx Q e H:=WW n h k
theorem mL:maxLen=9223372036854775807:=rfl
theorem Se{P:Program}{f:FuncId}{m:Func}{c:Code}{args:As}{N:Nat}{H:Hp}{Q:A3->Hp->Prop}{z:List PanicEntry->Hp->Prop}{e:Env}(J:P.funcs[f]?=some m)(E:m.ntmps=N)(y:List Nat)
 (h:∀u R,At P ⟨N,[],u,none⟩ c (bodyPost P m (Fp u R Q z)) e (H++R))(G:m.body=some c:=by exact rfl)(M:Nat.ble args.size N=true:=by exact rfl)(hn:y.all (fun t=>Nat.blt t N)=true:=by exact rfl)
 (I:WJ (GD 0 args.toList) y e:=by repeat(first|exact Pz|(apply O0;exact fun _=>rfl))):KG P f args H Q z:=Jy J G E M fun u R=>Zb y (h u R) hn I
section
variable{P:Program}{u:AD}{env:Env}{H H' R:Hp}{d:Option Nat}{ty:An}{pos:String}{af:Array Edge}{g:Option (Nat×Bool)}
theorem Xw{t:An}{x y:Operand}{b i n:Nat}{c cs:As}{T:An}{z:Nat×Nat}(E:∀w:AD,(Go.sizeOf t).run P w= .ok n w)(c':As)(hx:∀a,ev a env x= .pointer (some ⟨b,i,none⟩):=by exact fun _=>rfl)(hy:∀a,ev a env y= .agg cs:=by exact fun _=>rfl)
 (m:∀v∈cs.toList,v.oneCell'=true:=by first|(simp [Value.oneCell'];done)|(simp [Value.oneCell',Value.cells];done))(G:Upd b (.cells c T z) (.cells c' T z) H H':=by repeat(first|exact Upd.here _|apply Upd.there))(hc:FE c i cs.toList=c':=by rfl)(hn:cs.size=n:=by first|rfl|(simp;done))
 (hi:i+n<=c.size:=by first|omega|decide|exact B4 _|(simp;done)|(simp;omega))(hz:M6 z c.size:=by exact Aw _):OpW P u ⟨d,.store t x y,ty,pos,af,g⟩ env H (fun I H1=>I=undef/\H1=H') (fun _ _=>False):=Ao E hx hy m G hc hn hi hz
theorem Pa{d:Option Nat}{t:An}{x:Operand}{b i n:Nat}{c:As}{T:An}{z:Nat×Nat}(cs:As)(m:∀w:AD,(isAgg t).run P w= .ok true w)(y:∀w:AD,(Go.sizeOf t).run P w= .ok n w)(hx:∀a,ev a env x= .pointer (some ⟨b,i,none⟩))
 (hn:i+n<=c.size:=by first|omega|decide|exact B4 _|(simp;done)|(simp;omega))(hv:c.extract i (i+n)=cs:=by rfl):OpP P ⟨d,.load t x,ty,pos,af,g⟩ env [(b,.cells c T z)] (.agg cs):=A7 m y hx hn hv
theorem Bx{t:An}{x:Operand}{v:A3}(cs:As)(hx:∀a,ev a env x=v:=by exact fun _=>rfl)(hc:v.cells=cs:=by first|rfl|(simp [Value.cells];done)):OpW P u ⟨d,.box t x,ty,pos,af,g⟩ env H (fun m H1=>∃b,m=I5 b/\H1=[(b,.cells cs t (0,0))]::H) (fun _ _=>False):=J2 hx hc
theorem Al{t:An}{m:A3}(hz:∀w:AD,(zeroValue t).run P w= .ok m w)(cs:As)(hc:m.cells=cs:=by rfl):OpW P u ⟨d,.alloc t,ty,pos,af,g⟩ env H (fun y H1=>∃b,y=I5 b/\H1=[(b,.cells cs t (0,0))]::H) (fun _ _=>False):=Ff hz hc
end
section
variable{P:Program}{ops:Array Oper}{A:List Nat}{F:Nat}{cx:Cx}{Q:Exit->Act->AD->Prop}{n D:Nat}{T:List (Nat×AR)}{env:Env}{H:Hp}{ty:An}{pos:String}{af:Array Edge}
theorem Yw(f D':Nat){o:Oper}{G:A3->Hp->Prop}{m:Nat}(ho:ops[f]?=some o)(hw:OpW P cx.u o env H G (fun _ _=>False))(k:∀v H',G v H'->Lin P ops A F cx Q n D' [] (putE o.dst v env) H')(Z:∀a,wantedE ops a env o.guard=true:=by exact fun _=>rfl)(U:D|||(1<<<f)=D':=by exact rfl)
 (hm:A[f]?=some m:=by exact rfl)(E:(T.all fun p=>bit m p.1)=true:=by kernel_rfl)(O:lW ops A F D=true:=by kernel_rfl)(h2:Ll ops A F D=[f]:=by kernel_rfl):Lin P ops A F cx Q (n+1) D T env H:=by
 have z:A.getD f 0=m:=by rw [Nd,hm];rfl
 subst U;refine XB O h2 ⟨⟨o,[],ho,Z,fun p hp=> .inl (by rw [z];exact PF.1 E p hp),fun a w hs K M W X=>hw a w hs K M (fun v H' J y I=>W v H' J ⟨Ab,k v H' y⟩ I) (fun ch H' J y I=>y.elim)⟩,Ar⟩
end
section
variable{P:Program}{ops:Array Oper}{A:List Nat}{F:Nat}{cx:Cx}{Q:Exit->Act->AD->Prop}{n D:Nat}{T:List (Nat×AR)}{env:Env}{H:Hp}{ty:An}{pos:String}{af:Array Edge}
theorem A1{d:Nat}{y:Op}{v:A3}(i:Nat)(E:ops[i]?=some ⟨some d,y,ty,pos,af,none⟩)(m:OpP P ⟨some d,y,ty,pos,af,none⟩ env [] v)(k:Lin P ops A F cx Q n (D|||(1<<<i)) T ((d,v)::env) H)(z:(!bit F i&&!bit D i&&FL (A.getD i 0) D)=true:=by exact rfl):Lin P ops A F cx Q (n+1) D T env H:=xD i E z rfl m k
theorem B6{d:Nat}{t:An}{x:Operand}{b j:Nat}{c:As}{U:An}{z:Nat×Nat}{v:A3}(i:Nat)(G:ops[i]?=some ⟨some d,.load t x,ty,pos,af,none⟩)(y:∀w:AD,(isAgg t).run P w= .ok false w)(hx:∀a,ev a env x= .pointer (some ⟨b,j,none⟩))(k:Lin P ops A F cx Q n (D|||(1<<<i)) ((i,(b,.cells c U z))::T) ((d,v)::env) H)
 (E:Has b (.cells c U z) H:=by repeat(first|exact Has.here _|apply Has.there))(hv:c[j]?=some v:=by rfl)(m:(!bit F i&&!bit D i&&FL (A.getD i 0) D)=true:=by exact rfl):Lin P ops A F cx Q (n+1) D T env H:=Cs i G m rfl E (BZ y hx hv) k
theorem AK{o:Oper}(i:Nat)(z:ops[i]?=some o)(k:Lin P ops A F cx Q n (D|||(1<<<i)) T (putE o.dst undef env) H)(y:∀a,wantedE ops a env o.guard=false:=by exact fun _=>rfl)(m:(!bit D i&&FL (A.getD i 0) D)=true:=by exact rfl):Lin P ops A F cx Q (n+1) D T env H:=qN i z y m rfl k
theorem B1{d:Nat}{y:Op}{g:Nat×Bool}{v:A3}(i:Nat)(G:ops[i]?=some ⟨some d,y,ty,pos,af,some g⟩)(m:OpP P ⟨some d,y,ty,pos,af,some g⟩ env [] v)(k:Lin P ops A F cx Q n (D|||(1<<<i)) T ((d,v)::env) H)(E:∀a,wantedE ops a env (some g)=true:=by exact fun _=>rfl)(z:(!bit F i&&!bit D i&&FL (A.getD i 0) D)=true:=by exact rfl):Lin P ops A F cx Q (n+1) D T env H:=Ag i E G z rfl m k
theorem DG{d:Nat}{y:Op}{g:Nat×Bool}{v:A3}{b:Nat}{x:Obj}(i:Nat)(I:ops[i]?=some ⟨some d,y,ty,pos,af,some g⟩)(E:Has b x H)(m:OpP P ⟨some d,y,ty,pos,af,some g⟩ env [(b,x)] v)(k:Lin P ops A F cx Q n (D|||(1<<<i)) ((i,(b,x))::T) ((d,v)::env) H)(G:∀a,wantedE ops a env (some g)=true:=by exact fun _=>rfl)(z:(!bit F i&&!bit D i&&FL (A.getD i 0) D)=true:=by exact rfl):Lin P ops A F cx Q (n+1) D T env H:=Bf i G I z rfl E m k
theorem Fo{d:Nat}{y:Op}{v:A3}{b:Nat}{x:Obj}(i:Nat)(G:ops[i]?=some ⟨some d,y,ty,pos,af,none⟩)(E:Has b x H)(m:OpP P ⟨some d,y,ty,pos,af,none⟩ env [(b,x)] v)(k:Lin P ops A F cx Q n (D|||(1<<<i)) ((i,(b,x))::T) ((d,v)::env) H)(z:(!bit F i&&!bit D i&&FL (A.getD i 0) D)=true:=by exact rfl):Lin P ops A F cx Q (n+1) D T env H:=Cs i G z rfl E m k
theorem C6{f:Nat}{l:List Nat}{o:Oper}{G:A3->Hp->Prop}{E:List PanicEntry->Hp->Prop}(bs:List Bool)(y:List (Nat×AR))(U:ops[f]?=some o)(I:sel bs T=y)(W:OpW P cx.u o env H G E)
 (k:∀v H',G v H'->(∀p∈y,p.2∈H'.flatten)/\Lin P ops A F cx Q n (D|||(1<<<f)) y (putE o.dst v env) H')(X:∀ch H',E ch H'->∀env,Nx cx (Q (.panic ch)) env H')(M:Xg P ops A F cx Q n D T env H l)(J:∀a,wantedE ops a env o.guard=true:=by exact fun _=>rfl){m:Nat}(O:A[f]?=some m:=by exact rfl)(z:Ot m bs (T.map (·.1))=true:=by kernel_rfl):Xg P ops A F cx Q n D T env H (f::l):=WB U J rfl O rfl z I W k X M
end
theorem AE{α:Type}{f:α->Value}{g:α->Hp}{P:Value->Hp->Prop}(h:∀x,P (f x) (g x)):∀v H',(∃x,v=f x/\H'=g x)->P v H':=by rintro _ _ ⟨x,rfl,rfl⟩;exact h x
theorem DA{a:Value}{b:Hp}{P:Value->Hp->Prop}(h:P a b):∀v H',(v=a/\H'=b)->P v H':=by rintro _ _ ⟨rfl,rfl⟩;exact h
theorem CA{T:List (Nat×AR)}{H:Hp}{L:Prop}(h:L)(m:∀p∈T,p.2∈H.flatten:=by repeat(first|exact Ab|refine Zk ?_)):(∀p∈T,p.2∈H.flatten)/\L:=⟨m,h⟩
section
variable{P:Program}{ops:Array Oper}{l:List Oper}{cx:Cx}{Q:Exit->Act->World->Prop}{env:Env}{H:Hp}{ty:TypeId}{pos:String}{af:Array Edge}
theorem A2{x:Code}{id:Nat}(h:Ops P ops ops.toList cx (Exit.then (x.wpIn (Fx cx.r) 0 P Q) Q) env H):At P cx (.seq (.region id ops false) x) Q env H:=Zq (Zg h)
theorem A6{y:Code}(h:At P cx y Q env H):Ops P ops [] cx (Exit.then (y.wpIn (Fx cx.r) 0 P Q) Q) env H:=Z0 (Zx h)
theorem AN{d:Nat}{x:Operand}{v:Value}(hx:∀a,ev a env x=v)(k:Nx cx (Q .normal) ((d,v)::env) H)(m:Nat.blt d cx.N=true:=by exact rfl):Ops P ops [⟨some d,.assign x,ty,pos,af,none⟩] cx Q env H:=Za hx (Z0 k) m
theorem AF{d:Nat}{x:Operand}{v:Value}{y:Code}(hx:∀a,ev a env x=v)(k:At P cx y Q ((d,v)::env) H)(m:Nat.blt d cx.N=true:=by exact rfl):Ops P ops [⟨some d,.assign x,ty,pos,af,none⟩] cx (Exit.then (y.wpIn (Fx cx.r) 0 P Q) Q) env H:=Za hx (Z0 (Zx k)) m
end
section
variable{P:Program}{ops:Array Oper}{l:List Oper}{cx:Cx}{Q:Exit->Act->World->Prop}{env:Env}{H:Hp}{ty ty2:TypeId}{pos pos2:String}{af af2:Array Edge}
theorem sE{d:Option Nat}{z:Op}{g:Nat×Bool}(k:Ops P ops l cx Q (putE d undef env) H)(y:∀a,wantedE ops a env (some g)=false:=by exact fun _=>rfl)(m:UR cx.N d=true:=by exact rfl):Ops P ops (⟨d,z,ty,pos,af,some g⟩::l) cx Q env H:=PL y m k
theorem sL{d m:Option Nat}{M y:Op}{g z:Nat×Bool}(k:Ops P ops l cx Q (putE m undef (putE d undef env)) H)(J:∀a,wantedE ops a env (some g)=false:=by exact fun _=>rfl)(E:UR cx.N d=true:=by exact rfl)(I:∀a,wantedE ops a (putE d undef env) (some z)=false:=by exact fun _=>rfl)(G:UR cx.N m=true:=by exact rfl):Ops P ops (⟨d,M,ty,pos,af,some g⟩::⟨m,y,ty2,pos2,af2,some z⟩::l) cx Q env H:=PL J E (PL I G k)
theorem B7{x:Code}{id d:Nat}{y:Operand}{v:Value}(hx:∀a,ev a env y=v)(k:Ops P ((⟨some d,.move y,ty,pos,af,none⟩:Oper)::l).toArray l cx (Exit.then (x.wpIn (Fx cx.r) 0 P Q) Q) ((d,v)::env) H)(m:Nat.blt d cx.N=true:=by exact rfl):At P cx (.seq (.region id ((⟨some d,.move y,ty,pos,af,none⟩:Oper)::l).toArray false) x) Q env H:=A2 (Zm hx k m)
theorem AM{d:Nat}{x:Operand}{v:Value}(hx:∀a,ev a env x=v)(k:Nx cx (Q .ret) ((d,v)::env) H)(m:Nat.blt d cx.N=true:=by exact rfl):Ops P ops [⟨some d,.assign x,ty,pos,af,none⟩] cx (Exit.then (Code.ret.wpIn (Fx cx.r) 0 P Q) Q) env H:=AF hx (AC k) m
theorem H3{d:Nat}{c x y:Operand}{v:Value}(hc:∀a,ev a env c= .bool false)(h:∀a,ev a env y=v)(k:Ops P ops l cx Q ((d,v)::env) H)(m:Nat.blt d cx.N=true:=by exact rfl):Ops P ops (⟨some d,.pick c x y,ty,pos,af,none⟩::l) cx Q env H:=Zv (BC hc h) k rfl m
theorem HR{d:Nat}{c x y:Operand}{v:Value}(hc:∀a,ev a env c= .bool true)(h:∀a,ev a env x=v)(k:Ops P ops l cx Q ((d,v)::env) H)(m:Nat.blt d cx.N=true:=by exact rfl):Ops P ops (⟨some d,.pick c x y,ty,pos,af,none⟩::l) cx Q env H:=Zv (Ay hc h) k rfl m
theorem BT{x:Code}{id:Nat}(h:Ops P ops ops.toList cx (Exit.then (x.wpIn (Fx cx.r) 0 P Q) Q) env H):Nx cx ((Exit.then ((Code.seq (.region id ops false) x).wpIn (Fx cx.r) 0 P Q) Q) .normal) env H:=Zx (A2 h)
theorem B3{y:Code}(h:At P cx y Q env H):At P cx .skip (Exit.then (y.wpIn (Fx cx.r) 0 P Q) Q) env H:=AB (Zx h)
theorem GP{id d e:Nat}{t yt:TypeId}{x y z:Operand}{m:Nat}{v:Value}(hx:∀a,ev a env x= .int .i64 (m:Int))(hy:∀a,ev a env y= .int .i64 ((1:Nat):Int))(hz:∀a,ev a ((d,.int .i64 ((m+1:Nat):Int))::env) z=v)(k:Nx cx (Q .normal) ((e,v)::((d,.int .i64 ((m+1:Nat):Int))::env)) H)(E:m+1≤9223372036854775807:=by omega)(G:Nat.blt d cx.N=true:=by exact rfl)(I:Nat.blt e cx.N=true:=by exact rfl):At P cx (.region id #[⟨some d,.binOp .add t x y yt,ty,pos,af,none⟩,⟨some e,.move z,ty2,pos2,af2,none⟩] false) Q env H:=Zg (Ya hx hy (Zm hz (Z0 k) I) E G)
theorem C0{x z:Code}{id d:Nat}{y:Operand}{v:Value}(hx:∀a,ev a env y=v)(k:Ops P ((⟨some d,.move y,ty,pos,af,none⟩:Oper)::l).toArray l cx (Exit.then (x.wpIn (Fx cx.r) 0 P (Exit.then (z.wpIn (Fx cx.r) 0 P Q) Q)) (Exit.then (z.wpIn (Fx cx.r) 0 P Q) Q)) ((d,v)::env) H)(m:Nat.blt d cx.N=true:=by exact rfl):At P cx (.seq (.seq (.region id ((⟨some d,.move y,ty,pos,af,none⟩:Oper)::l).toArray false) x) z) Q env H:=Zq (B7 hx k m)
theorem CT{d:Nat}{x:Operand}{v:Value}{y z:Code}(hx:∀a,ev a env x=v)(k:At P cx y (Exit.then (z.wpIn (Fx cx.r) 0 P Q) Q) ((d,v)::env) H)(m:Nat.blt d cx.N=true:=by exact rfl):Ops P ops [⟨some d,.assign x,ty,pos,af,none⟩] cx (Exit.then ((Code.seq y z).wpIn (Fx cx.r) 0 P Q) Q) env H:=AF hx (Zq k) m
end
def eE(env e:Env):Prop:=∀a,KM a env (e.map Prod.fst)=e
theorem l0{env:Env}:eE env []:=fun _=>rfl
theorem l3{env:Env}{t:Nat}{v:Value}{e:Env}(h:∀a,FC a env t=v)(h2:eE env e):eE env ((t,v)::e):=fun a=>by
 simp only [List.map_cons,KM];rw [h a,h2 a]
section
variable{cx:Cx}{Q:Exit->Act->World->Prop}{env B e:Env}{R K H:Hp}
theorem HN{I:Nat->Env->Hp->Prop}{n m:Nat}(h:I m e K)(z:m<n:=by omega)(hn:(e++B).all (fun p=>Nat.blt p.1 cx.N)=true:=by exact rfl)(y:eE env (e++B):=by repeat(first|exact l0|(apply l3;exact fun _=>rfl)))(E:Sub (K++R) H:=by repeat(first|exact Sub.refl _|exact Sub.nil _|(apply Sub.cons;(focus (repeat(first|exact One.here _ _|apply One.there))))|refine Sub.drop _ ?_)):Nx cx ((Exit.then (tX cx I B R n) Q) .normal) env H:=pY ((e++B).map Prod.fst) (by rw [List.all_map];exact hn) y (Ac h z E)
theorem HC{I:Env->Hp->Prop}(h:I e K)(hn:(e++B).all (fun p=>Nat.blt p.1 cx.N)=true:=by exact rfl)(m:eE env (e++B):=by repeat(first|exact l0|(apply l3;exact fun _=>rfl)))(y:Sub (K++R) H:=by repeat(first|exact Sub.refl _|exact Sub.nil _|(apply Sub.cons;(focus (repeat(first|exact One.here _ _|apply One.there))))|refine Sub.drop _ ?_)):Nx cx ((Exit.then (fun a w=>∃e H1 a0,I e H1/\St cx (e++B) (H1++R) a0 w/\a=Ck (e++B) a0) Q) .normal) env H:=pY ((e++B).map Prod.fst) (by rw [List.all_map];exact hn) m (BD h y)
theorem DH{I:Nat->Env->Hp->Prop}{n m:Nat}(y:eE env (e++B):=by repeat(first|exact l0|(apply l3;exact fun _=>rfl)))(h:I m e K)(z:m<n:=by omega)(hn:(e++B).all (fun p=>Nat.blt p.1 cx.N)=true:=by exact rfl)(E:Sub (K++R) H:=by repeat(first|exact Sub.refl _|exact Sub.nil _|(apply Sub.cons;(focus (repeat(first|exact One.here _ _|apply One.there))))|refine Sub.drop _ ?_)):Nx cx ((Exit.then (tX cx I B R n) Q) .normal) env H:=pY ((e++B).map Prod.fst) (by rw [List.all_map];exact hn) y (Ac h z E)
theorem FF{I:Env->Hp->Prop}(m:eE env (e++B):=by repeat(first|exact l0|(apply l3;exact fun _=>rfl)))(h:I e K)(hn:(e++B).all (fun p=>Nat.blt p.1 cx.N)=true:=by exact rfl)(y:Sub (K++R) H:=by repeat(first|exact Sub.refl _|exact Sub.nil _|(apply Sub.cons;(focus (repeat(first|exact One.here _ _|apply One.there))))|refine Sub.drop _ ?_)):Nx cx ((Exit.then (fun a w=>∃e H1 a0,I e H1/\St cx (e++B) (H1++R) a0 w/\a=Ck (e++B) a0) Q) .normal) env H:=pY ((e++B).map Prod.fst) (by rw [List.all_map];exact hn) m (BD h y)
end
end Gw
