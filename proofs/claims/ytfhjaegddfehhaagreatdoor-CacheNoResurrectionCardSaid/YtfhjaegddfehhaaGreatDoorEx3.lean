/- Walking by chunks: writes, new memory, calls, a function's entry and end. No function of the program is named. -/
import Derived.Test.YtfhjaegddfehhaaGreatDoorEx2
set_option linter.unusedVariables false
set_option linter.unusedSimpArgs false
namespace Gw
open Go Go.RowKit
def FZ:Nat->List Value->Env
 |_,[]=>[]
 |i,v::l=>(i,v)::FZ (i+1) l
def Ih(z:Nat×Nat)(n:Nat):Prop:=∀i,i<n->¬(z.1<=i/\i<z.2)
theorem BB(n:Nat):Ih (0,0) n:=fun i _ h=>by simp only at h;omega
theorem aC(n m:Nat)(h:n<=m)(k:Nat):Ih (m,k) n:=fun i hi B=>by simp only at B;omega
theorem PG{w:World}{b i:Nat}{c:Array Value}{T:TypeId}{z:Nat×Nat}(v:Value)(h:w.heap[b]?=some (.cells c T z)):
 (w.setCell ⟨b,i,none⟩ v).heap[b]?=some (.cells (c.setIfInBounds i v) T z):=by
 simp [World.setCell,SR,h]
theorem LG{w:World}{k:Nat}{a:Addr}(v:Value)(hn:k≠a.block):(w.setCell a v).heap[k]?=w.heap[k]?:=by
 simp [World.setCell,SR,da hn]
theorem Jq{P:Program}{w:World}{b i:Nat}{c:Array Value}{T:TypeId}{z:Nat×Nat}{v:Value}(h:w.heap[b]?=some (.cells c T z))(hi:i<c.size)(hz:Ih z c.size)(m:v.oneCell'=true):
 (store ⟨b,i,none⟩ v).run P w= .ok () (w.setCell ⟨b,i,none⟩ v):=by
 have hc:w.cell? ⟨b,i,none⟩=some c[i]:=Cn h (HG hi);have B:w.frozen? ⟨b,i,none⟩=false:=by
  simp only [World.frozen?,h];have:=hz i hi
  obtain ⟨lo,G⟩:=z;simp only at this⊢;simpa using this
 rw [run_store P w _ v _ m,hc];simp [B]
theorem Ch{P:Program}(g o:Nat)(t:TypeId)(z:Nat×Nat):∀(vs:List Value) (i:Nat) (cur:Array Value) (w:World),w.heap[g]?=some (.cells cur t z)->Ih z cur.size->o+i+vs.length<=cur.size->(∀v∈vs,v.oneCell'=true)->
 (storeCells ⟨g,o,none⟩ vs i).run P w= .ok () (w.setRow g (cur.toList.take (o+i)++vs++cur.toList.drop (o+i+vs.length)).toArray)
 |[],i,cur,w,hg,_,_,_=>by
  simp only [storeCells,DB,KK,Pu,Iv,Array.toArray_toList];rw [setRow_self w g cur t z hg];rfl
 |v::rest,i,cur,w,hg,hz,hl,h1=>by
  have hi:o+i<cur.size:=by simp at hl;omega
  have m:(store ((⟨g,o,none⟩:Addr).add i) v).run P w= .ok () (w.setRow g (cur.setIfInBounds (o+i) v)):=by
   rw [CY,Jq hg hi hz (h1 v B0),setCell_eq_setRow w g (o+i) cur t z v hg]
  have B:=Ch (P:=P) g o t z rest (i+1) (cur.setIfInBounds (o+i) v) (w.setRow g (cur.setIfInBounds (o+i) v)) (setRow_heap w g cur _ t _ hg) (by simpa using hz) (by simp at hl⊢;omega) (fun x hx=>h1 x (by simp [hx]));simp only [storeCells,Sem.run_bind,m,Result.andThen_ok,B,setRow_setRow];congr 3;have e:=list_seg_step cur.toList (o+i) v rest (by simp at hl⊢;omega)
  simpa [gS,iu]using e
theorem JJ{α β:Type}(f:α->β)(ps:Array α):ps.map f=(ps.toList.map f).toArray:=by
 apply Array.ext';simp only [Array.toList_map]
def EL(c:Array Value)(i:Nat)(vs:List Value):Array Value:=(c.toList.take i++vs++c.toList.drop (i+vs.length)).toArray
section
variable{P:Program}{u:World}{env:Env}{H H' R:Hp}{d:Option Nat}{ty:TypeId}{pos:String}{af:Array Edge}{g:Option (Nat×Bool)}
theorem vv{t:TypeId}{x y:Operand}{b i:Nat}{c c':Array Value}{T:TypeId}{z:Nat×Nat}{v:Value}(X:∀w:World,(Go.sizeOf t).run P w= .ok 1 w)(hx:∀a,ev a env x= .pointer (some ⟨b,i,none⟩))(hy:∀a,ev a env y=v)(I:v.oneCell'=true)
 (O:Upd b (.cells c T z) (.cells c' T z) H H')(hc:c.setIfInBounds i v=c')(hi:i<c.size)(hz:Ih z c.size):
 OpW P u ⟨d,.store t x y,ty,pos,af,g⟩ env H (fun Z H1=>Z=undef/\H1=H') (fun _ _=>False):=fun a w B K Kp U _=>by
 have J:=B.get _ O.has.mem;have m:v.cells=#[v]:=by cases v<;>first|rfl|simp [Value.oneCell']at I
 have G:=Jq (P:=P) J hi hz I;have:(execOp (ev a env) ⟨d,.store t x y,ty,pos,af,g⟩).run P w= .ok .skip (w.setCell ⟨b,i,none⟩ v):=by
  simp [RI,hx a,hy a,Instr.storeAt,Instr.sureAddr,storeVar,X,m,storeCells,Addr.add_zero',G]
 rw [this];exact U _ _ _ ⟨rfl,rfl⟩ (B.upd O rfl rfl rfl (by rw [PG v J,hc]) fun k W=>LG v W)
theorem BL{t:TypeId}{x y:Operand}{b i n:Nat}{c cs:Array Value}{T:TypeId}{z:Nat×Nat}{c':Array Value}(W:∀w:World,(Go.sizeOf t).run P w= .ok n w)(hx:∀a,ev a env x= .pointer (some ⟨b,i,none⟩))(hy:∀a,ev a env y= .agg cs)(J:∀v∈cs.toList,v.oneCell'=true)
 (I:Upd b (.cells c T z) (.cells c' T z) H H')(hc:EL c i cs.toList=c')(hn:cs.size=n)(hi:i+n<=c.size)(hz:Ih z c.size):
 OpW P u ⟨d,.store t x y,ty,pos,af,g⟩ env H (fun X H1=>X=undef/\H1=H') (fun _ _=>False):=fun a w m K Z O _=>by
 have G:=m.get _ I.has.mem;have B:=Ch (P:=P) b i T z cs.toList 0 c w G hz (by simp;omega) J
 simp only [Pu]at B;have:(execOp (ev a env) ⟨d,.store t x y,ty,pos,af,g⟩).run P w= .ok .skip (w.setRow b (EL c i cs.toList)):=by
  simp [RI,hx a,hy a,Instr.storeAt,Instr.sureAddr,storeVar,W,Value.cells,hn,B,EL]
 rw [this];exact O _ _ _ ⟨rfl,rfl⟩ (m.upd I rfl rfl rfl (by rw [setRow_heap w b c _ T z G,hc]) fun k U=>setRow_other w b k _ U)
theorem Ea{t:TypeId}{m:Value}(hz:∀w:World,(zeroValue t).run P w= .ok m w){cs:Array Value}(hc:m.cells=cs):
 OpW P u ⟨d,.alloc t,ty,pos,af,g⟩ env H (fun I H1=>∃b,I=I5 b/\H1=[(b,.cells cs t (0,0))]::H) (fun _ _=>False):=fun a w G K J B _=>by
 have:(execOp (ev a env) ⟨d,.alloc t,ty,pos,af,g⟩).run P w= .ok (.value (.pointer (some ⟨w.heap.size,0,none⟩))) {w with heap:=w.heap.push (.cells cs t)}:=by
  simp [vg,Instr.alloc,hz,newVar,newRow,hc]
 rw [this];exact B _ _ _ ⟨_,V,V⟩ (G.alloc _)
theorem Eu{t:TypeId}{x:Operand}{v:Value}(hx:∀a,ev a env x=v){cs:Array Value}(hc:v.cells=cs):
 OpW P u ⟨d,.box t x,ty,pos,af,g⟩ env H (fun G H1=>∃b,G=I5 b/\H1=[(b,.cells cs t (0,0))]::H) (fun _ _=>False):=fun a w B K I m _=>by
 have:(execOp (ev a env) ⟨d,.box t x,ty,pos,af,g⟩).run P w= .ok (.value (.pointer (some ⟨w.heap.size,0,none⟩))) {w with heap:=w.heap.push (.cells cs t)}:=by
  simp [sL,Instr.box,hx a,newVar,newRow,hc]
 rw [this];exact m _ _ _ ⟨_,V,V⟩ (B.alloc _)
theorem Ic(c:Array Value)(n:Nat)(h:c.size=n):c.extract 0 (0+n)=c:=by subst h;simp
theorem rG(c:Array Value):EL c 0 c.toList=c:=by
 unfold EL;rw [SP B0];simp
theorem Yu(c:Array Value)(cs:List Value)(h:cs.length=c.toList.length):EL c 0 cs=cs.toArray:=by
 unfold EL;rw [SP A1];simp
theorem vW(cs:List Value):∀(l:List Value) (k off:Nat) (c:Array Value),c.toList=cs->off+k+l.length<=cs.length->
 ((l.zipIdx k).foldl (fun(a:Array Value) (p:Value×Nat)=>a.setIfInBounds (off+p.2) p.1) c).toList=cs.take (off+k)++l++cs.drop (off+k+l.length):=by
 intro l;induction l generalizing cs with
 |nil=>intro k off c hc m;simp [hc]
 |cons v l ih=>
  intro k off c hc m;simp only [List.zipIdx_cons,Tl];have B:off+k+(l.length+1)<=cs.length:=by simpa using m
  rw [ih (cs.set (off+k) v) (k+1) off (c.setIfInBounds (off+k) v) (by rw [gS,hc]) Hh];have:=list_seg_step cs (off+k) v l A1
  simpa [iu]using this
theorem aM(s:Nat):∀(vs:List Value) (k:Nat) (c:Array Value),(∀v∈vs,v.cells.size=s)->c.size=(k+vs.length)*s->
 Instr.fill (fun i=>some (i*s,s)) c (FZ k vs)=some (c.toList.take (k*s)++vs.flatMap fun v=>v.cells.toList).toArray
 |[],k,c,_,hc=>by
  simp only [FZ,Instr.fill,List.flatMap_nil,DB];rw [I2 (by simp at hc⊢;omega)]
 |v::vs,k,c,hv,hc=>by
  have B:=hv v (E4 ..);have G:k*s+s<=c.size:=by rw [hc];simp only [DG];rw [show(k+(vs.length+1))*s=k*s+s+vs.length*s by rw [Ks,Ks];omega];omega
  simp only [FZ,Instr.fill];rw [AK (by simp [B];omega)];have hz:=vW c.toList v.cells.toList 0 (k*s) c rfl (by simp [B];omega)
  have m:(v.cells.zipIdx.foldl (fun cs (x:Value×Nat)=>cs.setIfInBounds (k*s+x.2) x.1) c)=(c.toList.take (k*s)++v.cells.toList++c.toList.drop (k*s+s)).toArray:=by
   apply Array.ext';rw [<-oR,Array.toList_zipIdx];simpa [B]using hz
  have e:(v.cells.zipIdx.foldl (fun cs x=>match x with|(c,j)=>cs.setIfInBounds (k*s+j) c) c)=(c.toList.take (k*s)++v.cells.toList++c.toList.drop (k*s+s)).toArray:=m;rw [e,aM s vs (k+1) _ (fun x hx=>hv x (EV _ hx)) (by
   simp only [Gk,B7,C3,C2,SU,B];simp only [DG]at hc;rw [show k+1+vs.length=k+(vs.length+1) by omega,<-hc];omega)]
  congr 2;simp only [HL];rw [<-Cd];congr 1;rw [Ks,Nat.one_mul];rw [bm (by simp [B];omega)];rw [I2 (by simp [B];omega)]
theorem Ah{t e n s:Nat}{ps:Array (Nat×Operand)}{vs:List Value}{z:Value}{cs:List Value}(hu:P.underlying t=some (.slice e))(hs:∀w:World,(Go.sizeOf e).run P w= .ok s w)(hz:∀w:World,(zeroValue e).run P w= .ok z w)
 (hv:∀a,ps.toList.map (fun p=>(p.1,ev a env p.2))=FZ 0 vs)(W:Nat.ble (n*s) 16777216=true)(hn:Nat.blt 0 (n*s)=true)(Z:vs.length=n)(U:(vs.all fun v=>Nat.beq v.cells.size s)=true)(X:(vs.flatMap fun v=>v.cells.toList)=cs):
 OpW P u ⟨d,.buildSlice t n ps,ty,pos,af,g⟩ env H (fun v' H1=>∃b,v'=I6 b n n/\H1=[(b,.cells cs.toArray e (0,0))]::H) (fun _ _=>False):=fun a w B K Kp O _=>by
 have I:(ps.map fun(i,x)=>(i,ev a env x)).toList=FZ 0 vs:=by rw [<-hv a];simp
 have J:¬(16777216<n*s):=by have:=cU W;omega
 have h2:¬(n*s=0):=by have:0<n*s:=by simpa using hn
                      omega
 have m:Instr.fill (fun i=>some (i*s,s)) ((Array.range (n*s)).map (z.cells[·%z.cells.size]!)) (FZ 0 vs)=some cs.toArray:=by
  rw [aM s vs 0 _ (fun v hv=>nm (N0.1 U v hv)) (by simp [Z])];simp [X]
 have G:(Instr.buildSlice t n (ps.map fun(i,x)=>(i,ev a env x))).run P w= .ok (.slice (some ⟨w.heap.size,0,none⟩) n n) {w with heap:=w.heap.push (.cells cs.toArray e)}:=by
  unfold Instr.buildSlice;simp only [Sem.run_bind,run_underlying hu,Result.andThen_ok,hs,I,Nat.reducePow,gt_iff_lt,J,h2,HF,pure_bind,hz,Sem.run_pure,m];simp [newRow]
 have:(execOp (ev a env) ⟨d,.buildSlice t n ps,ty,pos,af,g⟩).run P w= .ok (.value (.slice (some ⟨w.heap.size,0,none⟩) n n)) {w with heap:=w.heap.push (.cells cs.toArray e)}:=by
  rw [OC,Sem.run_bind,G];rfl
 rw [this];exact O _ _ _ ⟨_,V,V⟩ (B.alloc _)
theorem BM{t:TypeId}{ps:Array (Nat×Operand)}{vs:List (Nat×Value)}{cs:Array Value}(hv:∀a,ps.toList.map (fun p=>(p.1,ev a env p.2))=vs)(B:∀w:World,(Instr.build t vs.toArray).run P w= .ok (.agg cs) w):
 OpP P ⟨d,.build t ps,ty,pos,af,g⟩ env [] (.agg cs):=fun a w _=>by
 have m:(ps.map fun(i,x)=>(i,ev a env x))=vs.toArray:=by rw [<-hv a];exact JJ _ ps
 rw [vZ,Sem.run_bind,m,B];rfl
theorem AZ{t:TypeId}{fs:Array Field}{z cs:Array Value}{pl:Array (Nat×Nat)}{vs:List (Nat×Value)}(hz:∀w:World,(zeroValue t).run P w= .ok (.agg z) w)(I:P.underlying t=some (.struct fs))
 (G:∀w:World,(fs.mapM (m:=Sem) fun f=>do pure (f.offset,<-Go.sizeOf f.type)).run P w= .ok pl w)(B:Instr.fill (pl[·]?) z vs=some cs)(w:World):(Instr.build t vs.toArray).run P w= .ok (.agg cs) w:=by
 unfold Instr.build;simp only [Sem.run_bind,hz,Result.andThen_ok,run_underlying I,Value.cells,G,B];rfl
theorem Da{t e n s:Nat}{z cs:Array Value}{vs:List (Nat×Value)}(hz:∀w:World,(zeroValue t).run P w= .ok (.agg z) w)(G:P.underlying t=some (.array n e))
 (B:∀w:World,(Go.sizeOf e).run P w= .ok s w)(m:Instr.fill (fun i=>some (i*s,s)) z vs=some cs)(w:World):(Instr.build t vs.toArray).run P w= .ok (.agg cs) w:=by
 unfold Instr.build;simp only [Sem.run_bind,hz,Result.andThen_ok,run_underlying G,Value.cells,B,m];rfl
theorem Bg{fn:Fn}{ps qs:Array Operand}{vs us:List Value}(B:∀a,ps.toList.map (ev a env)=vs)(G:∀a,qs.toList.map (ev a env)=us):OpP P ⟨d,.makeFunc fn ps qs,ty,pos,af,g⟩ env [] (.func fn vs.toArray us.toArray):=fun a w _=>by
 have m:ps.map (ev a env)=vs.toArray:=by rw [<-B a];exact JJ _ ps
 have h2:qs.map (ev a env)=us.toArray:=by rw [<-G a];exact JJ _ qs
 simp [bJ,Instr.makeFunc,m,h2]
theorem Pz(z:Value)(n:Nat):((Array.range n).map ((#[z]:Array Value)[·%(#[z]:Array Value).size]!))=(List.replicate n z).toArray:=by
 apply j7;· simp
 · intro i m h2
   simp [Nat.mod_one]
theorem Gf{t e l c by_:Nat}{x y:Operand}{z:Value}{i:TypeInfo}{k k':IntKind}(hu:P.underlying t=some (.slice e))(hi:P.info? e=some i)(hs:i.size=1)(U:i.bytes=by_)(J:i.zero=some z)(Z:z.oneCell'=true)
 (hx:∀a,ev a env x= .int k (l:Int))(hy:∀a,ev a env y= .int k' (c:Int))(ax:l<=c)(hc:c<=9223372036854775807)(hb:by_*c<=281474976710656):
 OpW P u ⟨d,.makeSlice t x y,ty,pos,af,g⟩ env H (fun v' H1=>∃b,v'=I6 b l c/\H1=[(b,.cells (List.replicate c z).toArray e (0,0))]::H) (fun _ _=>False):=fun a w I K Kp hK _=>by
 have m:z.cells=#[z]:=by cases z<;>first|rfl|simp [Value.oneCell']at Z
 have w1:IntKind.i64.wrap (l:Int)=(l:Int):=ED _ (by omega);have w2:IntKind.i64.wrap (c:Int)=(c:Int):=ED _ hc
 have O:¬((281474976710656:Int)<(by_:Int)*(c:Int)):=by
  rw [<-lR];omega
 have h3:¬((c:Int)<0):=by omega
 have h4:¬((l:Int)<0):=by omega
 have h5:¬((c:Int)<(l:Int)):=by omega
 have B:(if c=0 then(pure #[]:Sem (Array Value))else do pure (<-zeroValue e).cells).run P w= .ok (if c=0 then#[]else#[z]) w:=by
  by_cases h0:c=0
  · simp [h0]
  · simp [h0,zeroValue,typeInfo,hi,J,m]
 have W:(Instr.makeSlice t (ev a env x) (ev a env y)).run P w= .ok (.slice (some ⟨w.heap.size,0,none⟩) l c) {w with heap:=w.heap.push (.cells (List.replicate c z).toArray e)}:=by
  rw [hx a,hy a];unfold Instr.makeSlice;simp only [Sem.run_bind,run_underlying hu,Result.andThen_ok,asInt,asIntOf,Sem.run_pure,typeInfo,run_program,hi,U,w1,w2];simp only [h3,h4,h5,O,gt_iff_lt,Nat.reducePow,X1,el,MA,HF,Int.reducePow,Int.cast_ofNat_Int];simp only [Sem.run_bind,run_askRoom,Result.andThen_ok,Go.sizeOf,typeInfo,run_program,hi,Sem.run_pure,hs,W0,N2,B];by_cases h0:c=0;· subst h0;simp [newRow,Array.range_zero']
  · have X:(zeroValue e).run P w= .ok z w:=by simp [zeroValue,typeInfo,hi,J]
    have G:(Array.range c).map (fun x=>(#[z]:Array Value)[x%(#[z]:Array Value).size]!)=(List.replicate c z).toArray:=Pz z c;simp only [h0,HF,Sem.run_bind,X,Result.andThen_ok,m,Sem.run_pure,newRow,run_newObj,G]
 have:(execOp (ev a env) ⟨d,.makeSlice t x y,ty,pos,af,g⟩).run P w= .ok (.value (.slice (some ⟨w.heap.size,0,none⟩) l c)) {w with heap:=w.heap.push (.cells (List.replicate c z).toArray e)}:=by
  rw [QT,Sem.run_bind,W];rfl
 rw [this];exact hK _ _ _ ⟨_,V,V⟩ (I.alloc _)
end
def LH(P:Program)(f:FuncId)(args:Array Value)(H:Hp)(Q:Value->Hp->Prop)(Pn:List PanicEntry->Hp->Prop):Prop:=
 ∀(u:World) (R:Hp) (w:World),Sat u (H++R) w->Calls P f args w fun e w'=>(∃v H',e= .returned v/\Q v H'/\Sat u (H'++R) w')\/(∃ch H',e= .panicked ch/\Pn ch H'/\Sat u (H'++R) w')
def Ba(P:Program)(f:FuncId)(args:Array Value)(H:Hp)(Q:Value->Hp->Prop):Prop:=LH P f args H Q (fun _ _=>False)
def BH(P:Program)(f:FuncId)(args:Array Value)(H:Hp)(v:Value):Prop:=Ba P f args H (fun v' H'=>v'=v/\H'=H)
theorem LH.mono{P:Program}{f:FuncId}{args:Array Value}{H:Hp}{Q I:Value->Hp->Prop}{Pn m:List PanicEntry->Hp->Prop}(h:LH P f args H Q Pn)(O:∀v H',Q v H'->I v H')(K:∀ch H',Pn ch H'->m ch H'):LH P f args H I m:=fun u R w U=>
 Calls.mono (h u R w U) fun e W J=>by
  rcases J with⟨v,H',B,h2,G⟩|⟨ch,H',B,h2,G⟩
  · exact .inl ⟨v,H',B,O _ _ h2,G⟩
  · exact .inr ⟨ch,H',B,K _ _ h2,G⟩
theorem Ba.mono{P:Program}{f:FuncId}{args:Array Value}{H:Hp}{Q m:Value->Hp->Prop}(h:Ba P f args H Q)(B:∀v H',Q v H'->m v H'):Ba P f args H m:=LH.mono h B (fun _ _ h=>h)
theorem Rt{P:Program}{f:FuncId}{args:Array Value}{H:Hp}{Q:Value->Hp->Prop}{Rl:Value->Prop}(h:∀w:World,(∀p∈H.flatten,w.heap[p.1]?=some p.2)->Calls P f args w fun e B=>∃v,e= .returned v/\Rl v/\Below w.heap.size w B)(O:∀v,Rl v->Q v H):Ba P f args H Q:=fun u R w m=>
 Calls.mono (h w fun p K=>m.get p (by simp only [Ge,B9];exact .inl K)) fun e B J=>by
  obtain ⟨v,G,h2,I⟩:=J;exact .inl ⟨v,H,G,O v h2,m.below I⟩
section
variable{P:Program}{u:World}{env:Env}{H R:Hp}{d:Option Nat}{ty:TypeId}{pos:String}{af:Array Edge}{g:Option (Nat×Bool)}
theorem gu{f:FuncId}{args:Array Value}{J:Hp}{Q:Value->Hp->Prop}{Pn:List PanicEntry->Hp->Prop}(I:LH P f args J Q Pn)(X:Ew J H R){w:World}(Z:Sat u H w){K:Value->World->Prop}{O:List PanicEntry->World->Prop}
 (U:∀v H' m,(∃H1,Q v H1/\H'=H1++R)->Sat u H' m->K v m)(G:∀ch H' m,(∃H1,Pn ch H1/\H'=H1++R)->Sat u H' m->O ch m):Uu P K O (.ok (.enter f args) w):=
 Calls.mono (I u R w (Z.perm X.perm)) fun e m W=>by
  rcases W with⟨v,H',rfl,h2,B⟩|⟨ch,H',rfl,h2,B⟩
  · exact U v _ m ⟨H',h2,rfl⟩ B
  · exact G ch _ m ⟨H',h2,rfl⟩ B
theorem bP{I:Operand}{B:Array Operand}{G:Array TypeId}{f:FuncId}{first m args:Array Value}{vs:List Value}{U:Hp}{Q:Value->Hp->Prop}{Pn:List PanicEntry->Hp->Prop}
 (hf:∀a,ev a env I= .func (.func f) first m)(hc:∀(args:Array Value) (w:World),(callFunc f args).run P w= .ok (.enter f args) w)(ha:∀a,B.toList.map (ev a env)=vs)(X:(first.toList++vs++m.toList).toArray=args)
 (O:LH P f args U Q Pn)(hp:Ew U H R):
 OpW P u ⟨d,.call ⟨.value I,B,G⟩,ty,pos,af,g⟩ env H (fun v H'=>∃H1,Q v H1/\H'=H1++R) (fun ch H'=>∃H1,Pn ch H1/\H'=H1++R):=fun a w hs K Kp Z J=>by
 have W:B.map (ev a env)=vs.toArray:=by rw [<-ha a];exact JJ _ B
 have:(execOp (ev a env) ⟨d,.call ⟨.value I,B,G⟩,ty,pos,af,g⟩).run P w= .ok (.enter f args) w:=by
  simp [Dz,resolve,hf a,Deferred.ofValue,invoke,W,hc,<-X]
 rw [this];exact gu O hp hs Z J
end
section
variable{P:Program}{ops:Array Oper}{l:List Oper}{cx:Cx}{Qe:Exit->Act->World->Prop}{env:Env}{H R:Hp}{d:Option Nat}{ty:TypeId}{pos:String}{af:Array Edge}{g:Option (Nat×Bool)}
theorem ww{m:Op}{B:Value->Hp->Prop}(h:OpW P cx.u ⟨d,m,ty,pos,af,g⟩ env H B (fun _ _=>False))(I:∀a,wantedE ops a env g=true)(hn:Dy m=true)(G:fits cx.N d=true)
 (k:∀v H',B v H'->Ops P ops l cx Qe (putE d v env) H'):Ops P ops (⟨d,m,ty,pos,af,g⟩::l) cx Qe env H:=
 Jh I (RS G) hn h k (fun _ _ h=>h.elim)
theorem WZ{u:World}{O:Operand}{J:Array Operand}{B:Array TypeId}{f:FuncId}{first m args:Array Value}{vs:List Value}{I:Hp}{v:Value}
 (hf:∀a,ev a env O= .func (.func f) first m)(hc:∀(args:Array Value) (w:World),(callFunc f args).run P w= .ok (.enter f args) w)(ha:∀a,J.toList.map (ev a env)=vs)(Z:(first.toList++vs++m.toList).toArray=args)
 (G:BH P f args I v)(U:Ew I H R):
 OpW P u ⟨d,.call ⟨.value O,J,B⟩,ty,pos,af,g⟩ env H (fun W H'=>W=v/\H'=H) (fun _ _=>False):=fun a w hs K X hK ax=>
 bP hf hc ha Z G U a w hs K X (by rintro W _ w' ⟨H1,⟨rfl,rfl⟩,rfl⟩ h;exact hK _ _ w' ⟨rfl,rfl⟩ (h.perm U.perm.symm)) (by rintro _ _ _ ⟨_,h,_⟩;exact h.elim)
end
theorem Bv{R:Hp}{A:List PanicEntry->Hp->Prop}:∀ch H',(∃H1,(fun(_:List PanicEntry) (_:Hp)=>False) ch H1/\H'=H1++R)->A ch H':=by rintro _ _ ⟨_,h,_⟩;exact h.elim
def GX(u:World)(R:Hp)(Q:Value->Hp->Prop)(Pn:List PanicEntry->Hp->Prop)(e:Ending)(w':World):Prop:=
 (∃v H',e= .returned v/\Q v H'/\Sat u (H'++R) w')\/(∃ch H',e= .panicked ch/\Pn ch H'/\Sat u (H'++R) w')
theorem FM:∀(l:List Value) (i:Nat) (p:Nat×Value),p∈FZ i l->i<=p.1/\l[p.1 -i]?=some p.2
 |[],_,_,h=>by cases h
 |v::l,i,p,h=>by
  simp only [FZ,D4]at h;rcases h with rfl|h
  · simp
  · obtain ⟨m,h2⟩:=FM l (i+1) p h
    refine ⟨by omega,?_⟩;rw [show p.1 -i=(p.1 -(i+1))+1 by omega,cD];exact h2
theorem K9{a:Act}:∀(sl:Env),(∀p∈sl,a.tmps[p.1]?=some p.2)->CF sl a=a
 |[],_=>rfl
 |(d,v)::sl,h=>by
  simp only [CF];rw [K9 sl fun p G=>h p (EV _ G)];have B:=h (d,v) (E4 ..)
  refine J7 (by rw [EH]) (by rw [Jf]) fun t m=>?_;rw [EH]at m;rw [J2 _ _ _ _ m];split;· rename_i e;cases e;exact B.symm
  · rfl
theorem Ka{P:Program}{f:FuncId}{fn:Func}{c:Code}{args:Array Value}{N:Nat}{H:Hp}{Q:Value->Hp->Prop}{Pn:List PanicEntry->Hp->Prop}(U:P.funcs[f]?=some fn)(O:fn.body=some c)(K:fn.ntmps=N)(W:Nat.ble args.size N=true)
 (h:∀u R,At P ⟨N,[],u,none⟩ c (bodyPost P fn (GX u R Q Pn)) (FZ 0 args.toList) (H++R)):LH P f args H Q Pn:=fun u R w B=>by
 have G:args.size<=N:=cU W;refine calls_of_wp U O ?_;refine (wpIn_wide (n:=0)).1 ?_;have m:CF (FZ 0 args.toList) {tmps:=args++Array.replicate (fn.ntmps -args.size) undef,defers:=[]}={tmps:=args++Array.replicate (fn.ntmps -args.size) undef,defers:=[]}:=by
  refine K9 _ fun p J=>?_;obtain ⟨_,h2⟩:=FM _ _ _ J;simp only [Sh,HH]at h2;have I:p.1<args.size:=by
   rcases E0 p.1 args.size with h|h
   · exact h
   · simp [I0 h]at h2
  rw [eK I];exact h2
 rw [<-m];refine h u R _ w ⟨by simp [K];omega,V,fun p J=>?_,B⟩;obtain ⟨_,h2⟩:=FM _ _ _ J;simp only [Sh,HH]at h2;rcases E0 p.1 args.size with h|h
 · exact l3 h G
 · simp [I0 h]at h2
section
variable{P:Program}{N:Nat}{u:World}{r:Option Nat}{fn:Func}{R H H':Hp}{Q:Value->Hp->Prop}{Pn:List PanicEntry->Hp->Prop}{env:Env}{e:Exit}
theorem QZ{t:Nat}(m:fn.results=#[.tmp t])(w:World)(tmps:Array Value):(results fn tmps).run P w= .ok (tmps.getD t undef) w:=by simp [results,m]
theorem Oh(m:fn.results=#[])(w:World)(tmps:Array Value):(results fn tmps).run P w= .ok (.tuple #[]) w:=by simp [results,m]
theorem QY{t s:Nat}(m:fn.results=#[.tmp t,.tmp s])(w:World)(tmps:Array Value):(results fn tmps).run P w= .ok (.tuple #[tmps.getD t undef,tmps.getD s undef]) w:=by simp [results,m]
theorem UO{t s q:Nat}(m:fn.results=#[.tmp t,.tmp s,.tmp q])(w:World)(tmps:Array Value):(results fn tmps).run P w= .ok (.tuple #[tmps.getD t undef,tmps.getD s undef,tmps.getD q undef]) w:=by simp [results,m]
def Fa:Exit->Bool
 | .normal| .ret=>true
 |_=>false
theorem Lx{v:Value}(I:Fa e=true)(O:∀a w,St ⟨N,[],u,r⟩ env H a w->(results fn (CF env a).tmps).run P w= .ok v w)(K:Q v H')(J:Sub (H'++R) H:=by repeat(first|exact Sub.refl _|exact Sub.nil _|(apply Sub.cons;(focus (repeat(first|exact One.here _ _|apply One.there))))|refine Sub.drop _ ?_)):Nx ⟨N,[],u,r⟩ (bodyPost P fn (GX u R Q Pn) e) env H:=fun a w m=>by
 have B:(CF env a).defers=[]:=by rw [Fj];exact m.defers
 have h2:=O a w m;have G:GX u R Q Pn (.returned v) w:= .inl ⟨v,H',rfl,K,m.sat.sub J.amid⟩
 cases e<;>first|exact ⟨B,v,h2,G⟩|simp [Fa]at I
theorem AO{t:Nat}{v:Value}(B:Fa e=true)(J:fn.results=#[.tmp t])(hv:∀a,G8 a env t=v)(I:Q v H')(G:Sub (H'++R) H:=by repeat(first|exact Sub.refl _|exact Sub.nil _|(apply Sub.cons;(focus (repeat(first|exact One.here _ _|apply One.there))))|refine Sub.drop _ ?_)):Nx ⟨N,[],u,r⟩ (bodyPost P fn (GX u R Q Pn) e) env H:=
 Lx B (fun a w m=>by rw [QZ J,Ca a env (by rw [m.size];exact m.fit),hv a]) I G
theorem Cw(m:Fa e=true)(I:fn.results=#[])(G:Q (.tuple #[]) H')(B:Sub (H'++R) H:=by repeat(first|exact Sub.refl _|exact Sub.nil _|(apply Sub.cons;(focus (repeat(first|exact One.here _ _|apply One.there))))|refine Sub.drop _ ?_)):Nx ⟨N,[],u,r⟩ (bodyPost P fn (GX u R Q Pn) e) env H:=
 Lx m (fun a w J=>Oh I w _) G B
theorem Cv{t s:Nat}{v x:Value}(B:Fa e=true)(J:fn.results=#[.tmp t,.tmp s])(hv:∀a,G8 a env t=v)(hx:∀a,G8 a env s=x)(I:Q (.tuple #[v,x]) H')(G:Sub (H'++R) H:=by repeat(first|exact Sub.refl _|exact Sub.nil _|(apply Sub.cons;(focus (repeat(first|exact One.here _ _|apply One.there))))|refine Sub.drop _ ?_)):Nx ⟨N,[],u,r⟩ (bodyPost P fn (GX u R Q Pn) e) env H:=
 Lx B (fun a w m=>by rw [QY J,Ca a env (by rw [m.size];exact m.fit),Ca a env (by rw [m.size];exact m.fit),hv a,hx a]) I G
theorem jD{t s q:Nat}{v x y:Value}(B:Fa e=true)(J:fn.results=#[.tmp t,.tmp s,.tmp q])(hv:∀a,G8 a env t=v)(hx:∀a,G8 a env s=x)(hy:∀a,G8 a env q=y)(I:Q (.tuple #[v,x,y]) H')(G:Sub (H'++R) H:=by repeat(first|exact Sub.refl _|exact Sub.nil _|(apply Sub.cons;(focus (repeat(first|exact One.here _ _|apply One.there))))|refine Sub.drop _ ?_)):Nx ⟨N,[],u,r⟩ (bodyPost P fn (GX u R Q Pn) e) env H:=
 Lx B (fun a w m=>by rw [UO J,Ca a env (by rw [m.size];exact m.fit),Ca a env (by rw [m.size];exact m.fit),Ca a env (by rw [m.size];exact m.fit),hv a,hx a,hy a]) I G
theorem X5{t ty b i:Nat}{v:Value}(B:fn.results=#[.cell t ty]){w:World}{tmps:Array Value}(hx:tmps.getD t undef= .pointer (some ⟨b,i,none⟩))(m:(loadVar ty ⟨b,i,none⟩).run P w= .ok v w):(results fn tmps).run P w= .ok v w:=by
 rw [LR]at hx;simp [results,B,hx,asAddr,m]
theorem UQ{t ty b i s m c j:Nat}{v x:Value}(I:fn.results=#[.cell t ty,.cell s m]){w:World}{tmps:Array Value}(hx:tmps.getD t undef= .pointer (some ⟨b,i,none⟩))(B:(loadVar ty ⟨b,i,none⟩).run P w= .ok v w)
 (hy:tmps.getD s undef= .pointer (some ⟨c,j,none⟩))(G:(loadVar m ⟨c,j,none⟩).run P w= .ok x w):(results fn tmps).run P w= .ok (.tuple #[v,x]) w:=by
 rw [LR]at hx hy;simp [results,I,hx,hy,asAddr,B,G]
theorem Am{t b i n:Nat}{c:Array Value}{T:TypeId}{z:Nat×Nat}{cs:Array Value}(ha:∀w:World,(isAgg t).run P w= .ok true w)(hs:∀w:World,(Go.sizeOf t).run P w= .ok n w)(hn:i+n<=c.size)(hv:c.extract i (i+n)=cs)(w:World)(hb:w.heap[b]?=some (.cells c T z)):(loadVar t ⟨b,i,none⟩).run P w= .ok (.agg cs) w:=by
 have:=A9 (P:=P) (env:=[]) (d:=none) (ty:=0) (pos:= "") (af:=#[]) (g:=none) (x:= .const (.pointer (some ⟨b,i,none⟩))) (T:=T) (z:=z) ha hs (fun _=>rfl) hn hv ⟨#[],[]⟩ w (by simpa using hb);rw [bK]at this;simp only [Sem.run_bind,ev,Instr.loadAt,Instr.sureAddr,Sem.run_pure,Result.andThen_ok]at this;cases hr:(loadVar t ⟨b,i,none⟩).run P w with
 |ok v w'=>rw [hr]at this;simp only [Result.andThen_ok]at this;cases this;rfl
 |halt h w'=>rw [hr]at this;simp only [Result.andThen_halt]at this;cases this
theorem Z9{t b i:Nat}{c:Array Value}{T:TypeId}{z:Nat×Nat}{v:Value}(m:∀w:World,(isAgg t).run P w= .ok false w)(hv:c[i]?=some v)(w:World)(B:w.heap[b]?=some (.cells c T z)):(loadVar t ⟨b,i,none⟩).run P w= .ok v w:=by
 simp [loadVar,m,Cn B hv]
theorem Cu{t ty b i:Nat}{v:Value}{o:Obj}(G:Fa e=true)(O:fn.results=#[.cell t ty])(hv:∀a,G8 a env t= .pointer (some ⟨b,i,none⟩))(B:Has b o H)(I:∀w:World,w.heap[b]?=some o->(loadVar ty ⟨b,i,none⟩).run P w= .ok v w)(K:Q v H')(J:Sub (H'++R) H:=by repeat(first|exact Sub.refl _|exact Sub.nil _|(apply Sub.cons;(focus (repeat(first|exact One.here _ _|apply One.there))))|refine Sub.drop _ ?_)):Nx ⟨N,[],u,r⟩ (bodyPost P fn (GX u R Q Pn) e) env H:=
 Lx G (fun a w m=>X5 O (by rw [Ca a env (by rw [m.size];exact m.fit),hv a]) (I w (m.sat.get _ B.mem))) K J
end
end Gw
