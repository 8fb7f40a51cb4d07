/- Short forms of the laws of the chunk walk: what every step repeats is a default here. No function of the program is named. -/
import Derived.Test.YthhakdmlpngcmaaGreatDoorEx5
set_option linter.unusedVariables false
set_option linter.unusedSimpArgs false
namespace Gw
open Go Go.RowKit
theorem Y{α β:Type}{f:α->β}:∀a,f a=f a:=fun _=>rfl
def WM(env:Env)(sl:List Nat)(e:Env):Prop:=∀a,JZ a env sl=e
theorem Pf{env:Env}:WM env [] []:=fun _=>rfl
theorem NW{env:Env}{t:Nat}{v:A4}{l:List Nat}{e:Env}(h:∀a,Fw a env t=v)(h2:WM env l e):WM env (t::l) ((t,v)::e):=fun a=>by
 simp only [JZ];rw [h a,h2 a]
theorem Zb{P:Program}{cx:Cx}{c:Code}{Q:Exit->Act->AD->Prop}{env m:Env}{H:Hp}(B:List Nat)(h:At P cx c Q m H)(I:B.all (fun t=>Nat.blt t cx.N)=true:=by exact rfl)(G:WM env B m:=by repeat(first|exact Pf|(apply NW;exact fun _=>rfl))):At P cx c Q env H:=vU B I G h
theorem Zn{cx:Cx}{Q:Act->AD->Prop}{env m:Env}{H:Hp}(B:List Nat)(h:Nx cx Q m H)(I:B.all (fun t=>Nat.blt t cx.N)=true:=by exact rfl)(G:WM env B m:=by repeat(first|exact Pf|(apply NW;exact fun _=>rfl))):Nx cx Q env H:=sV B I G h
section
variable{P:Program}{cx:Cx}{Q:Exit->Act->AD->Prop}{env:Env}{H:Hp}
theorem Zq{x y:Code}(h:At P cx x (Exit.then (y.wpIn (Fx cx.r) 0 P Q) Q) env H):At P cx (.seq x y) Q env H:=tP h
theorem Zx{y:Code}(h:At P cx y Q env H):Nx cx ((Exit.then (y.wpIn (Fx cx.r) 0 P Q) Q) .normal) env H:=xW h
theorem Zt{K:Act->AD->Prop}{e:Exit}(h:Nx cx (Q e) env H)(m:e≠ .normal:=by(intro h;cases h;done)):Nx cx (Exit.then K Q e) env H:=xV m h
theorem Zg{id:Nat}{ops:Array Oper}(h:Ops P ops ops.toList cx Q env H):At P cx (.region id ops false) Q env H:=oq h
end
section
variable{P:Program}{ops:Array Oper}{l:List Oper}{cx:Cx}{Q:Exit->Act->AD->Prop}{env:Env}{H:Hp}{ty:AM}{pos:String}{af:Array Edge}
theorem Z0(h:Nx cx (Q .normal) env H):Ops P ops [] cx Q env H:=xR h
theorem Zm{d:Nat}{x:Operand}{v:A4}(B:∀a,ev a env x=v)(k:Ops P ops l cx Q ((d,v)::env) H)(m:Nat.blt d cx.N=true:=by exact rfl):Ops P ops (⟨some d,.move x,ty,pos,af,none⟩::l) cx Q env H:=Kw (AO B) rfl m k
theorem Za{d:Nat}{x:Operand}{v:A4}(B:∀a,ev a env x=v)(k:Ops P ops l cx Q ((d,v)::env) H)(m:Nat.blt d cx.N=true:=by exact rfl):Ops P ops (⟨some d,.assign x,ty,pos,af,none⟩::l) cx Q env H:=Kw (Aq B) rfl m k
theorem Zp{d:Nat}{x:Operand}{v:A4}(B:∀a,ev a env x=v)(hv:tC v=true)(k:Ops P ops l cx Q ((d,v)::env) H)(m:Nat.blt d cx.N=true:=by exact rfl):Ops P ops (⟨some d,.nilCheck x,ty,pos,af,none⟩::l) cx Q env H:=Kw (Ak B hv) rfl m k
theorem Zd{d:Nat}{x:Operand}{i:Nat}{vs:AK}{v:A4}(B:∀a,ev a env x= .tuple vs)(hv:vs[i]?=some v)(k:Ops P ops l cx Q ((d,v)::env) H)(m:Nat.blt d cx.N=true:=by exact rfl):Ops P ops (⟨some d,.extract x i,ty,pos,af,none⟩::l) cx Q env H:=Kw (CE B hv) rfl m k
theorem Zv{d:Nat}{m:Op}{v:A4}(h:OpP P ⟨some d,m,ty,pos,af,none⟩ env [] v)(k:Ops P ops l cx Q ((d,v)::env) H)(G:Dx m=true:=by exact rfl)(B:Nat.blt d cx.N=true:=by exact rfl):Ops P ops (⟨some d,m,ty,pos,af,none⟩::l) cx Q env H:=Kw h G B k
theorem Zf{d:Nat}{g:Nat×Bool}{x:Operand}{v:A4}(B:∀a,wantedE ops a env (some g)=true)(G:∀a,ev a env x=v)(k:Ops P ops l cx Q ((d,v)::env) H)(m:Nat.blt d cx.N=true:=by exact rfl):Ops P ops (⟨some d,.move x,ty,pos,af,some g⟩::l) cx Q env H:=GU B (AO G) rfl m k
theorem Zh{d:Nat}{B:Array Field}{fl:Field}{t:AM}{x:Operand}{f b m:Nat}(off:Nat)(O:P.underlying t=some (.struct B))(I:B[f]?=some fl)(J:fl.offset=off)(K:∀w:AD,(Go.sizeOf fl.type).run P w= .ok (m+1) w)(U:∀a,ev a env x=I5 b)(k:Ops P ops l cx Q ((d,.pointer (some ⟨b,off,none⟩))::env) H)(G:Nat.blt d cx.N=true:=by exact rfl):Ops P ops (⟨some d,.fieldAddr t x f,ty,pos,af,none⟩::l) cx Q env H:=Kw (AA O I J K U) rfl G k
theorem Zl{d:Nat}{t:AM}{x:Operand}{b i:Nat}{c:AK}{T:AM}{z:Nat×Nat}{v:A4}(m:∀w:AD,(isAgg t).run P w= .ok false w)(I:∀a,ev a env x= .pointer (some ⟨b,i,none⟩))(k:Ops P ops l cx Q ((d,v)::env) H)(B:Has b (.cells c T z) H:=by(repeat(first|exact Has.here _|apply Has.there));done)(hv:c[i]?=some v:=by rfl)(G:Nat.blt d cx.N=true:=by exact rfl):Ops P ops (⟨some d,.load t x,ty,pos,af,none⟩::l) cx Q env H:=pC B (BF m I hv) rfl G k
theorem Yl{d:Nat}{g:Nat×Bool}{t:AM}{x:Operand}{b i:Nat}{c:AK}{T:AM}{z:Nat×Nat}{v:A4}(m:∀w:AD,(isAgg t).run P w= .ok false w)(J:∀a,ev a env x= .pointer (some ⟨b,i,none⟩))(k:Ops P ops l cx Q ((d,v)::env) H)(B:Has b (.cells c T z) H:=by(repeat(first|exact Has.here _|apply Has.there));done)(hv:c[i]?=some v:=by rfl)(I:∀a,wantedE ops a env (some g)=true:=by exact fun _=>rfl)(G:Nat.blt d cx.N=true:=by exact rfl):Ops P ops (⟨some d,.load t x,ty,pos,af,some g⟩::l) cx Q env H:=Dw I B (BF m J hv) rfl G k
theorem Yf{d:Nat}{g:Nat×Bool}{B:Array Field}{fl:Field}{t:AM}{x:Operand}{f b m:Nat}(off:Nat)(U:P.underlying t=some (.struct B))(I:B[f]?=some fl)(K:fl.offset=off)(O:∀w:AD,(Go.sizeOf fl.type).run P w= .ok (m+1) w)(W:∀a,ev a env x=I5 b)(k:Ops P ops l cx Q ((d,.pointer (some ⟨b,off,none⟩))::env) H)(J:∀a,wantedE ops a env (some g)=true:=by exact fun _=>rfl)(G:Nat.blt d cx.N=true:=by exact rfl):Ops P ops (⟨some d,.fieldAddr t x f,ty,pos,af,some g⟩::l) cx Q env H:=GU J (AA U I K O W) rfl G k
theorem Yg{d:Nat}{g:Nat×Bool}{m:Op}{v:A4}(h:OpP P ⟨some d,m,ty,pos,af,some g⟩ env [] v)(k:Ops P ops l cx Q ((d,v)::env) H)(G:∀a,wantedE ops a env (some g)=true:=by exact fun _=>rfl)(I:Dx m=true:=by exact rfl)(B:Nat.blt d cx.N=true:=by exact rfl):Ops P ops (⟨some d,m,ty,pos,af,some g⟩::l) cx Q env H:=GU G h I B k
theorem Ya{d:Nat}{t yt:AM}{x y:Operand}{m n:Nat}(I:∀a,ev a env x=I4 (m:Int))(J:∀a,ev a env y=I4 (n:Int))(k:Ops P ops l cx Q ((d,I4 ((m+n:Nat):Int))::env) H)(B:m+n<=9223372036854775807:=by omega)(G:Nat.blt d cx.N=true:=by exact rfl):Ops P ops (⟨some d,.binOp .add t x y yt,ty,pos,af,none⟩::l) cx Q env H:=Kw (EA I J B) rfl G k
theorem Yi{d:Nat}{t yt:AM}{x y:Operand}{m n:Int}(I:∀a,ev a env x=I4 m)(J:∀a,ev a env y=I4 n)(k:Ops P ops l cx Q ((d,I4 (m+n))::env) H)(B:-9223372036854775808<=m+n/\m+n<=9223372036854775807:=by omega)(G:Nat.blt d cx.N=true:=by exact rfl):Ops P ops (⟨some d,.binOp .add t x y yt,ty,pos,af,none⟩::l) cx Q env H:=Kw (Gm I J (IntWalk.i64_in _ B)) rfl G k
theorem Yb{d:Nat}{t yt:AM}{x y:Operand}{m n:Nat}(J:∀a,ev a env x=I4 (m:Int))(K:∀a,ev a env y=I4 (n:Int))(k:Ops P ops l cx Q ((d,I4 ((m -n:Nat):Int))::env) H)(B:n<=m:=by omega)(I:m<=9223372036854775807:=by omega)(G:Nat.blt d cx.N=true:=by exact rfl):Ops P ops (⟨some d,.binOp .sub t x y yt,ty,pos,af,none⟩::l) cx Q env H:=Kw (CO J K B I) rfl G k
theorem Zo{d:Nat}{m:Op}{v:A4}{b:Nat}{o:Obj}(B:Has b o H)(h:OpP P ⟨some d,m,ty,pos,af,none⟩ env [(b,o)] v)(k:Ops P ops l cx Q ((d,v)::env) H)(I:Dx m=true:=by exact rfl)(G:Nat.blt d cx.N=true:=by exact rfl):Ops P ops (⟨some d,m,ty,pos,af,none⟩::l) cx Q env H:=pC B h I G k
end
section
variable{P:Program}{u:AD}{ops:Array Oper}{l:List Oper}{cx:Cx}{Qe:Exit->Act->AD->Prop}{env:Env}{H H' R:Hp}{d:Option Nat}{ty:AM}{pos:String}{af:Array Edge}{g:Option (Nat×Bool)}
theorem Ze{m:Op}{B:A4->Hp->Prop}(h:OpW P cx.u ⟨d,m,ty,pos,af,g⟩ env H B (fun _ _=>False))(k:∀v H',B v H'->Ops P ops l cx Qe (putE d v env) H')(I:∀a,wantedE ops a env g=true:=by exact fun _=>rfl)(J:Dx m=true:=by exact rfl)(G:fits cx.N d=true:=by exact rfl):Ops P ops (⟨d,m,ty,pos,af,g⟩::l) cx Qe env H:=xS h I J G k
theorem Xe{m:Op}{v0:A4}{H0:Hp}(h:OpW P cx.u ⟨d,m,ty,pos,af,g⟩ env H (fun v H'=>v=v0/\H'=H0) (fun _ _=>False))(k:Ops P ops l cx Qe (putE d v0 env) H0)(G:∀a,wantedE ops a env g=true:=by exact fun _=>rfl)(I:Dx m=true:=by exact rfl)(B:fits cx.N d=true:=by exact rfl):Ops P ops (⟨d,m,ty,pos,af,g⟩::l) cx Qe env H:=xS h G I B (by rintro _ _ ⟨rfl,rfl⟩;exact k)
theorem Zw(vs:List A4){O:Operand}{K:Array Operand}{B:Array AM}{f:FuncId}{first m args:AK}{I:Hp}{Q:A4->Hp->Prop}{J:List PanicEntry->Hp->Prop}
 (X:∀a,ev a env O= .func (.func f) first m)(hc:∀(args:AK) (w:AD),(callFunc f args).run P w= .ok (.enter f args) w)(W:∀a,K.toList.map (ev a env)=vs)(U:(first.toList++vs++m.toList).toArray=args)
 (G:Lb P f args I Q J)(Z:Ex I H R:=by repeat(first|exact Ex.nil _|(apply Ex.cons;(focus (repeat(first|exact One.here _ _|apply One.there)))))):
 OpW P u ⟨d,.call ⟨.value O,K,B⟩,ty,pos,af,g⟩ env H (fun v H'=>∃H1,Q v H1/\H'=H1++R) (fun ch H'=>∃H1,J ch H1/\H'=H1++R):=bY X hc W U G Z
theorem Zu(vs:List A4){K:Operand}{J:Array Operand}{B:Array AM}{f:FuncId}{first m args:AK}{I:Hp}{v:A4}
 (W:∀a,ev a env K= .func (.func f) first m)(hc:∀(args:AK) (w:AD),(callFunc f args).run P w= .ok (.enter f args) w)(U:∀a,J.toList.map (ev a env)=vs)(O:(first.toList++vs++m.toList).toArray=args)
 (G:BJ P f args I v)(X:Ex I H R:=by repeat(first|exact Ex.nil _|(apply Ex.cons;(focus (repeat(first|exact One.here _ _|apply One.there)))))):
 OpW P u ⟨d,.call ⟨.value K,J,B⟩,ty,pos,af,g⟩ env H (fun Z H'=>Z=v/\H'=H) (fun _ _=>False):=WY W hc U O G X
theorem Zc(vs:List A4){K:Operand}{J:Array Operand}{B:Array AM}{f:FuncId}{first m args:AK}{I:Hp}{Q:A4->Hp->Prop}
 (X:∀a,ev a env K= .func (.func f) first m)(hc:∀(args:AK) (w:AD),(callFunc f args).run P w= .ok (.enter f args) w)(U:∀a,J.toList.map (ev a env)=vs)(O:(first.toList++vs++m.toList).toArray=args)
 (G:Lb P f args I Q fun _ _=>False)(k:∀v H',(∃H1,Q v H1/\H'=H1++R)->Ops P ops l cx Qe (putE d v env) H')(hp:Ex I H R:=by repeat(first|exact Ex.nil _|(apply Ex.cons;(focus (repeat(first|exact One.here _ _|apply One.there))))))(Z:∀a,wantedE ops a env g=true:=by exact fun _=>rfl)(W:fits cx.N d=true:=by exact rfl):
 Ops P ops (⟨d,.call ⟨.value K,J,B⟩,ty,pos,af,g⟩::l) cx Qe env H:=Jh Z (RN W) rfl (bY X hc U O G hp) k Bv
theorem Zr(vs:List A4){K:Operand}{J:Array Operand}{B:Array AM}{f:FuncId}{first m args:AK}{I:Hp}{v:A4}
 (Z:∀a,ev a env K= .func (.func f) first m)(hc:∀(args:AK) (w:AD),(callFunc f args).run P w= .ok (.enter f args) w)(W:∀a,J.toList.map (ev a env)=vs)(U:(first.toList++vs++m.toList).toArray=args)
 (G:BJ P f args I v)(k:∀O H',O=v/\H'=H->Ops P ops l cx Qe (putE d O env) H')(hp:Ex I H R:=by repeat(first|exact Ex.nil _|(apply Ex.cons;(focus (repeat(first|exact One.here _ _|apply One.there))))))(hg:∀a,wantedE ops a env g=true:=by exact fun _=>rfl)(X:fits cx.N d=true:=by exact rfl):
 Ops P ops (⟨d,.call ⟨.value K,J,B⟩,ty,pos,af,g⟩::l) cx Qe env H:=xS (WY Z hc W U G hp) hg rfl X k
theorem Xr(vs:List A4){K:Operand}{J:Array Operand}{B:Array AM}{f:FuncId}{first m args:AK}{I:Hp}{v:A4}
 (X:∀a,ev a env K= .func (.func f) first m)(hc:∀(args:AK) (w:AD),(callFunc f args).run P w= .ok (.enter f args) w)(U:∀a,J.toList.map (ev a env)=vs)(O:(first.toList++vs++m.toList).toArray=args)
 (G:BJ P f args I v)(k:Ops P ops l cx Qe (putE d v env) H)(hp:Ex I H R:=by repeat(first|exact Ex.nil _|(apply Ex.cons;(focus (repeat(first|exact One.here _ _|apply One.there))))))(Z:∀a,wantedE ops a env g=true:=by exact fun _=>rfl)(W:fits cx.N d=true:=by exact rfl):
 Ops P ops (⟨d,.call ⟨.value K,J,B⟩,ty,pos,af,g⟩::l) cx Qe env H:=xS (WY X hc U O G hp) Z rfl W (by rintro _ _ ⟨rfl,rfl⟩;exact k)
theorem Zs{t:AM}{x y:Operand}{b i:Nat}{c c':AK}{T:AM}{z:Nat×Nat}{v:A4}(B:∀w:AD,(Go.sizeOf t).run P w= .ok 1 w)(I:∀a,ev a env x= .pointer (some ⟨b,i,none⟩))(J:∀a,ev a env y=v)(m:v.oneCell'=true)
 (G:Upd b (.cells c T z) (.cells c' T z) H H':=by repeat(first|exact Upd.here _|apply Upd.there))(hc:c.setIfInBounds i v=c':=by rfl)(hi:i<c.size:=by first|decide|exact CI _|(simp;done)|(simp;omega))(hz:Ie z c.size:=by exact BC _):
 OpW P u ⟨d,.store t x y,ty,pos,af,g⟩ env H (fun K H1=>K=undef/\H1=H') (fun _ _=>False):=wW B I J m G hc hi hz
end
section
variable{P:Program}{ops:Array Oper}{A:List Nat}{F:Nat}{cx:Cx}{Q:Exit->Act->AD->Prop}{n D:Nat}{T:List (Nat×A9)}{env:Env}{H:Hp}{ty:AM}{pos:String}{af:Array Edge}
theorem Yk{o:Oper}(D' i:Nat)(I:ops[i]?=some o)(k:Lin P ops A F cx Q n D' T (putE o.dst undef env) H)(G:∀a,wantedE ops a env o.guard=false:=by exact fun _=>rfl)(m:(!bit D i&&F4 (A.getD i 0) D)=true:=by exact rfl)(B:D|||(1<<<i)=D':=by exact rfl):Lin P ops A F cx Q (n+1) D T env H:=tq i I G m B k
theorem Zi{d:Nat}{B:Op}{v:A4}(D' i:Nat)(J:ops[i]?=some ⟨some d,B,ty,pos,af,none⟩)(m:OpP P ⟨some d,B,ty,pos,af,none⟩ env [] v)(k:Lin P ops A F cx Q n D' T ((d,v)::env) H)(G:(!bit F i&&!bit D i&&F4 (A.getD i 0) D)=true:=by exact rfl)(I:D|||(1<<<i)=D':=by exact rfl):Lin P ops A F cx Q (n+1) D T env H:=zH i J G I m k
theorem Zj{d:Nat}{t:AM}{x:Operand}{b j:Nat}{c:AK}{U:AM}{z:Nat×Nat}{v:A4}(D' i:Nat)(J:ops[i]?=some ⟨some d,.load t x,ty,pos,af,none⟩)(G:∀w:AD,(isAgg t).run P w= .ok false w)(K:∀a,ev a env x= .pointer (some ⟨b,j,none⟩))(k:Lin P ops A F cx Q n D' ((i,(b,.cells c U z))::T) ((d,v)::env) H)
 (I:Has b (.cells c U z) H:=by repeat(first|exact Has.here _|apply Has.there))(hv:c[j]?=some v:=by rfl)(m:(!bit F i&&!bit D i&&F4 (A.getD i 0) D)=true:=by exact rfl)(B:D|||(1<<<i)=D':=by exact rfl):Lin P ops A F cx Q (n+1) D T env H:=DI i J m B I (BF G K hv) k
theorem Zk{H:Hp}{i b:Nat}{x:Obj}{T:List (Nat×A9)}(m:∀p∈T,p.2∈H.flatten)(h:Has b x H:=by repeat(first|exact Has.here _|apply Has.there)):∀p∈((i,(b,x))::T),p.2∈H.flatten:=nE h m
theorem Zy{f:Nat}{l:List Nat}{o:Oper}{K:A4->Hp->Prop}{J:List PanicEntry->Hp->Prop}(m D':Nat)(is:List Nat)(O:List Bool)(B:List (Nat×A9))(ho:ops[f]?=some o)(X:∀a,wantedE ops a env o.guard=true)(U:D|||(1<<<f)=D')(hm:A[f]?=some m)(G:T.map (·.1)=is)(W:sel O T=B)(hw:OpW P cx.u o env H K J)
 (k:∀v H',K v H'->(∀p∈B,p.2∈H'.flatten)/\Lin P ops A F cx Q n D' B (putE o.dst v env) H')(kp:∀ch H',J ch H'->∀env,Nx cx (Q (.panic ch)) env H')(Z:Xv P ops A F cx Q n D T env H l)(I:OQ m O is=true:=by kernel_rfl):Xv P ops A F cx Q n D T env H (f::l):=WC ho X U hm G I W hw k kp Z
theorem Zz{l:List Nat}(h:Xv P ops A F cx Q n D T env H l)(m:nV ops A F D=true:=by kernel_rfl)(h2:L8 ops A F D=l:=by kernel_rfl):Lin P ops A F cx Q (n+1) D T env H:=XI m h2 h
theorem Yz(f:Nat){o:Oper}{J:A4->Hp->Prop}(m D':Nat)(is:List Nat)(K:List Bool)(B:List (Nat×A9))(ho:ops[f]?=some o)(X:∀a,wantedE ops a env o.guard=true)(U:D|||(1<<<f)=D')(Z:A[f]?=some m)(G:T.map (·.1)=is)(W:sel K T=B)(hw:OpW P cx.u o env H J (fun _ _=>False))
 (k:∀v H',J v H'->(∀p∈B,p.2∈H'.flatten)/\Lin P ops A F cx Q n D' B (putE o.dst v env) H')(I:OQ m K is=true:=by kernel_rfl)(O:nV ops A F D=true:=by kernel_rfl)(h2:L8 ops A F D=[f]:=by kernel_rfl):Lin P ops A F cx Q (n+1) D T env H:=XI O h2 (WC ho X U Z G I W hw k (fun _ _ h=>h.elim) Aj)
end
theorem Wh{b:Nat}{o:Obj}{H:Hp}(h:Has b o H:=by repeat(first|exact Has.here _|apply Has.there)):Has b o H:=h
theorem Wu{b:Nat}{x y:Obj}{H H':Hp}(h:Upd b x y H H':=by repeat(first|exact Upd.here _|apply Upd.there)):Upd b x y H H':=h
theorem Wo{s:List A9}{H R:Hp}(h:One s H R:=by repeat(first|exact One.here _ _|apply One.there)):One s H R:=h
theorem Wp{G H R:Hp}(h:Ex G H R:=by repeat(first|exact Ex.nil _|(apply Ex.cons;(focus (repeat(first|exact One.here _ _|apply One.there)))))):Ex G H R:=h
theorem Wb{p:Prop}(h:p:=by first|omega|decide|(simp;done)):p:=h
theorem Wn{p:Prop}(h:p:=by first|decide|exact CI _|(simp;done)|(simp;omega)):p:=h
theorem mL:maxLen=9223372036854775807:=rfl
theorem Se{P:Program}{f:FuncId}{m:Func}{c:Code}{args:AK}{N:Nat}{H:Hp}{Q:A4->Hp->Prop}{G:List PanicEntry->Hp->Prop}{e:Env}(O:P.funcs[f]?=some m)(I:m.ntmps=N)(B:List Nat)
 (h:∀u R,At P ⟨N,[],u,none⟩ c (bodyPost P m (GJ u R Q G)) e (H++R))(J:m.body=some c:=by exact rfl)(W:Nat.ble args.size N=true:=by exact rfl)(U:B.all (fun t=>Nat.blt t N)=true:=by exact rfl)
 (K:WM (Fa 0 args.toList) B e:=by repeat(first|exact Pf|(apply NW;exact fun _=>rfl))):Lb P f args H Q G:=Kl O J I W fun u R=>Zb B (h u R) U K
section
variable{P:Program}{u:AD}{env:Env}{H H' R:Hp}{d:Option Nat}{ty:AM}{pos:String}{af:Array Edge}{g:Option (Nat×Bool)}
theorem Xw{t:AM}{x y:Operand}{b i n:Nat}{c cs:AK}{T:AM}{z:Nat×Nat}(G:∀w:AD,(Go.sizeOf t).run P w= .ok n w)(c':AK)(J:∀a,ev a env x= .pointer (some ⟨b,i,none⟩):=by exact fun _=>rfl)(K:∀a,ev a env y= .agg cs:=by exact fun _=>rfl)
 (m:∀v∈cs.toList,v.oneCell'=true:=by first|(simp [Value.oneCell'];done)|(simp [Value.oneCell',Value.cells];done))(I:Upd b (.cells c T z) (.cells c' T z) H H':=by repeat(first|exact Upd.here _|apply Upd.there))(hc:EM c i cs.toList=c':=by rfl)(B:cs.size=n:=by first|rfl|(simp;done))
 (hi:i+n<=c.size:=by first|omega|decide|exact CI _|(simp;done)|(simp;omega))(hz:Ie z c.size:=by exact BC _):OpW P u ⟨d,.store t x y,ty,pos,af,g⟩ env H (fun O H1=>O=undef/\H1=H') (fun _ _=>False):=BL G J K m I hc B hi hz
theorem Pa{d:Option Nat}{t:AM}{x:Operand}{b i n:Nat}{c:AK}{T:AM}{z:Nat×Nat}(cs:AK)(m:∀w:AD,(isAgg t).run P w= .ok true w)(G:∀w:AD,(Go.sizeOf t).run P w= .ok n w)(I:∀a,ev a env x= .pointer (some ⟨b,i,none⟩))
 (B:i+n<=c.size:=by first|omega|decide|exact CI _|(simp;done)|(simp;omega))(hv:c.extract i (i+n)=cs:=by rfl):OpP P ⟨d,.load t x,ty,pos,af,g⟩ env [(b,.cells c T z)] (.agg cs):=AB m G I B hv
theorem Bx{t:AM}{x:Operand}{v:A4}(cs:AK)(m:∀a,ev a env x=v:=by exact fun _=>rfl)(hc:v.cells=cs:=by first|rfl|(simp [Value.cells];done)):OpW P u ⟨d,.box t x,ty,pos,af,g⟩ env H (fun B H1=>∃b,B=I5 b/\H1=[(b,.cells cs t (0,0))]::H) (fun _ _=>False):=F5 m hc
theorem Al{t:AM}{m:A4}(hz:∀w:AD,(zeroValue t).run P w= .ok m w)(cs:AK)(hc:m.cells=cs:=by rfl):OpW P u ⟨d,.alloc t,ty,pos,af,g⟩ env H (fun B H1=>∃b,B=I5 b/\H1=[(b,.cells cs t (0,0))]::H) (fun _ _=>False):=Ey hz hc
end
section
variable{P:Program}{ops:Array Oper}{A:List Nat}{F:Nat}{cx:Cx}{Q:Exit->Act->AD->Prop}{n D:Nat}{T:List (Nat×A9)}{env:Env}{H:Hp}{ty:AM}{pos:String}{af:Array Edge}
theorem Yw(f D':Nat){o:Oper}{J:A4->Hp->Prop}{m:Nat}(ho:ops[f]?=some o)(hw:OpW P cx.u o env H J (fun _ _=>False))(k:∀v H',J v H'->Lin P ops A F cx Q n D' [] (putE o.dst v env) H')(hg:∀a,wantedE ops a env o.guard=true:=by exact fun _=>rfl)(Z:D|||(1<<<f)=D':=by exact rfl)
 (hm:A[f]?=some m:=by exact rfl)(I:(T.all fun p=>bit m p.1)=true:=by kernel_rfl)(X:nV ops A F D=true:=by kernel_rfl)(h2:L8 ops A F D=[f]:=by kernel_rfl):Lin P ops A F cx Q (n+1) D T env H:=by
 have G:A.getD f 0=m:=by rw [Mz,hm];rfl
 subst Z;refine XI X h2 ⟨⟨o,[],ho,hg,fun p hp=> .inl (by rw [G];exact Lq.1 I p hp),fun a w hs K W hK af=>hw a w hs K W (fun v H' U B O=>hK v H' U ⟨AZ,k v H' B⟩ O) (fun ch H' U B O=>B.elim)⟩,Aj⟩
end
section
variable{P:Program}{ops:Array Oper}{A:List Nat}{F:Nat}{cx:Cx}{Q:Exit->Act->AD->Prop}{n D:Nat}{T:List (Nat×A9)}{env:Env}{H:Hp}{ty:AM}{pos:String}{af:Array Edge}
theorem A3{d:Nat}{B:Op}{v:A4}(i:Nat)(I:ops[i]?=some ⟨some d,B,ty,pos,af,none⟩)(m:OpP P ⟨some d,B,ty,pos,af,none⟩ env [] v)(k:Lin P ops A F cx Q n (D|||(1<<<i)) T ((d,v)::env) H)(G:(!bit F i&&!bit D i&&F4 (A.getD i 0) D)=true:=by exact rfl):Lin P ops A F cx Q (n+1) D T env H:=zH i I G rfl m k
theorem BE{d:Nat}{t:AM}{x:Operand}{b j:Nat}{c:AK}{U:AM}{z:Nat×Nat}{v:A4}(i:Nat)(I:ops[i]?=some ⟨some d,.load t x,ty,pos,af,none⟩)(B:∀w:AD,(isAgg t).run P w= .ok false w)(J:∀a,ev a env x= .pointer (some ⟨b,j,none⟩))(k:Lin P ops A F cx Q n (D|||(1<<<i)) ((i,(b,.cells c U z))::T) ((d,v)::env) H)
 (G:Has b (.cells c U z) H:=by repeat(first|exact Has.here _|apply Has.there))(hv:c[j]?=some v:=by rfl)(m:(!bit F i&&!bit D i&&F4 (A.getD i 0) D)=true:=by exact rfl):Lin P ops A F cx Q (n+1) D T env H:=DI i I m rfl G (BF B J hv) k
theorem AN{o:Oper}(i:Nat)(G:ops[i]?=some o)(k:Lin P ops A F cx Q n (D|||(1<<<i)) T (putE o.dst undef env) H)(B:∀a,wantedE ops a env o.guard=false:=by exact fun _=>rfl)(m:(!bit D i&&F4 (A.getD i 0) D)=true:=by exact rfl):Lin P ops A F cx Q (n+1) D T env H:=tq i G B m rfl k
theorem An{d:Nat}{B:Op}{g:Nat×Bool}{v:A4}(i:Nat)(J:ops[i]?=some ⟨some d,B,ty,pos,af,some g⟩)(m:OpP P ⟨some d,B,ty,pos,af,some g⟩ env [] v)(k:Lin P ops A F cx Q n (D|||(1<<<i)) T ((d,v)::env) H)(I:∀a,wantedE ops a env (some g)=true:=by exact fun _=>rfl)(G:(!bit F i&&!bit D i&&F4 (A.getD i 0) D)=true:=by exact rfl):Lin P ops A F cx Q (n+1) D T env H:=Ad i I J G rfl m k
theorem DO{d:Nat}{B:Op}{g:Nat×Bool}{v:A4}{b:Nat}{x:Obj}(i:Nat)(K:ops[i]?=some ⟨some d,B,ty,pos,af,some g⟩)(I:Has b x H)(m:OpP P ⟨some d,B,ty,pos,af,some g⟩ env [(b,x)] v)(k:Lin P ops A F cx Q n (D|||(1<<<i)) ((i,(b,x))::T) ((d,v)::env) H)(J:∀a,wantedE ops a env (some g)=true:=by exact fun _=>rfl)(G:(!bit F i&&!bit D i&&F4 (A.getD i 0) D)=true:=by exact rfl):Lin P ops A F cx Q (n+1) D T env H:=Br i J K G rfl I m k
theorem FG{d:Nat}{B:Op}{v:A4}{b:Nat}{x:Obj}(i:Nat)(J:ops[i]?=some ⟨some d,B,ty,pos,af,none⟩)(I:Has b x H)(m:OpP P ⟨some d,B,ty,pos,af,none⟩ env [(b,x)] v)(k:Lin P ops A F cx Q n (D|||(1<<<i)) ((i,(b,x))::T) ((d,v)::env) H)(G:(!bit F i&&!bit D i&&F4 (A.getD i 0) D)=true:=by exact rfl):Lin P ops A F cx Q (n+1) D T env H:=DI i J G rfl I m k
theorem B7{f:Nat}{l:List Nat}{o:Oper}{J:A4->Hp->Prop}{I:List PanicEntry->Hp->Prop}(K:List Bool)(B:List (Nat×A9))(Z:ops[f]?=some o)(O:sel K T=B)(hw:OpW P cx.u o env H J I)
 (k:∀v H',J v H'->(∀p∈B,p.2∈H'.flatten)/\Lin P ops A F cx Q n (D|||(1<<<f)) B (putE o.dst v env) H')(kp:∀ch H',I ch H'->∀env,Nx cx (Q (.panic ch)) env H')(W:Xv P ops A F cx Q n D T env H l)(U:∀a,wantedE ops a env o.guard=true:=by exact fun _=>rfl){m:Nat}(X:A[f]?=some m:=by exact rfl)(G:OQ m K (T.map (·.1))=true:=by kernel_rfl):Xv P ops A F cx Q n D T env H (f::l):=WC Z U rfl X rfl G O hw k kp W
end
theorem AG{α:Type}{f:α->Value}{g:α->Hp}{P:Value->Hp->Prop}(h:∀x,P (f x) (g x)):∀v H',(∃x,v=f x/\H'=g x)->P v H':=by rintro _ _ ⟨x,rfl,rfl⟩;exact h x
theorem Cp{a:Value}{b:Hp}{P:Value->Hp->Prop}(h:P a b):∀v H',(v=a/\H'=b)->P v H':=by rintro _ _ ⟨rfl,rfl⟩;exact h
theorem BW{T:List (Nat×A9)}{H:Hp}{L:Prop}(h:L)(m:∀p∈T,p.2∈H.flatten:=by repeat(first|exact AZ|refine Zk ?_)):(∀p∈T,p.2∈H.flatten)/\L:=⟨m,h⟩
section
variable{P:Program}{ops:Array Oper}{l:List Oper}{cx:Cx}{Q:Exit->Act->World->Prop}{env:Env}{H:Hp}{ty:TypeId}{pos:String}{af:Array Edge}
theorem A1{x:Code}{id:Nat}(h:Ops P ops ops.toList cx (Exit.then (x.wpIn (Fx cx.r) 0 P Q) Q) env H):At P cx (.seq (.region id ops false) x) Q env H:=Zq (Zg h)
theorem A6{y:Code}(h:At P cx y Q env H):Ops P ops [] cx (Exit.then (y.wpIn (Fx cx.r) 0 P Q) Q) env H:=Z0 (Zx h)
theorem AW{d:Nat}{x:Operand}{v:Value}(B:∀a,ev a env x=v)(k:Nx cx (Q .normal) ((d,v)::env) H)(m:Nat.blt d cx.N=true:=by exact rfl):Ops P ops [⟨some d,.assign x,ty,pos,af,none⟩] cx Q env H:=Za B (Z0 k) m
theorem A5{d:Nat}{x:Operand}{v:Value}{y:Code}(B:∀a,ev a env x=v)(k:At P cx y Q ((d,v)::env) H)(m:Nat.blt d cx.N=true:=by exact rfl):Ops P ops [⟨some d,.assign x,ty,pos,af,none⟩] cx (Exit.then (y.wpIn (Fx cx.r) 0 P Q) Q) env H:=Za B (Z0 (Zx k)) m
end
end Gw
