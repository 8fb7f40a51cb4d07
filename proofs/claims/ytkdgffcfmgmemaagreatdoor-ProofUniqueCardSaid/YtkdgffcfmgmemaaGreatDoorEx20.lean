/- Walking by chunks: maps, with keys of any type that has a law of keys (structs of integers too): made, looked up, stored to, deleted from, counted. No function of the program is named. -/
/- Walking by chunks: range over a map that is not changed meanwhile. No function of the program is named. -/
import Derived.Test.YtkdgffcfmgmemaaGreatDoorEz
import Derived.Test.YtkdgffcfmgmemaaGreatDoorEx5
import Derived.DeepKeys3
import Derived.WideKeyMaps
import Derived.MapKept
import Derived.Maps.RangeRun
set_option linter.unusedVariables false
set_option linter.unusedSimpArgs false
namespace Gw
open Go Go.RowKit
open Go.ChangeMaps (setBlock)
section
variable{α:Type}{κ:α→Value}{D:α→Prop}{P:Program}
structure Ex(κ:α→Value)(es:Array MapEntry)(clock:Nat)(l:List (α×Value)):Prop where
 pairs:es.toList.map (fun e=>(e.key,e.val))=l.map (fun p=>(κ p.1,p.2))
 born:(es.toList.map (·.born)).Nodup
 old:∀e∈es.toList,e.born<clock
 keys:(l.map (·.1)).Nodup
structure I8(P:Program)(kt:TypeId)(κ:α→Value)(D:α→Prop):Prop where
 check:∀(w:World) (em:Bool) (a:α),D a→(Instr.checkKey em 10000 kt (κ a)).run P w= .ok () w
 find:∀(w:World) (k:α),D k→∀es:List MapEntry,(∀e∈es,∃a,D a∧e.key=κ a)→((Instr.findKey kt (κ k) es).run P w= .ok none w∧∀e∈es,e.key≠κ k)∨∃j e,(Instr.findKey kt (κ k) es).run P w= .ok (some (j,e.val)) w∧es[j]?=some e∧e.key=κ k
 stays:∀(w:World) (a:α),D a→(Instr.keyThatStays (κ a) (κ a)).run P w= .ok (κ a) w
 inj:∀a b,κ a=κ b→a=b
theorem I8.ofLaw{kt:TypeId}(law:WideMaps.KeyLaw P kt)(key:∀a,D a→∃l,keyOf P kt (κ a)=some l)(inj:∀a b,κ a=κ b→a=b):I8 P kt κ D where
 check:=fun w em a ha=>by obtain ⟨l,hl⟩:=key a ha;exact law.check w em hl
 find:=fun w k hk es he=>by
  obtain ⟨l,hl⟩:=key k hk;exact law.find w hl es fun e h=>by obtain ⟨a,ha,e1⟩:=he e h;rw [e1];exact key a ha
 stays:=fun w a ha=>by obtain ⟨l,hl⟩:=key a ha;exact law.stays w hl
 inj:=inj
theorem I8.basic [DecidableEq α]{kt:TypeId}{td:TypeDesc}(hu:P.underlying kt=some td)(hs:∀a b,Instr.sameNow td (κ a) (κ b)=some (decide (a=b)))(hc:∀(w:World) (em:Bool) (a:α),(Instr.checkKey em 10000 kt (κ a)).run P w= .ok () w)
 (hst:∀(w:World) (a:α),(Instr.keyThatStays (κ a) (κ a)).run P w= .ok (κ a) w)(inj:∀a b,κ a=κ b→a=b):I8 P kt κ D where
 check:=fun w em a _=>hc w em a
 find:=fun w k _ es he=>by
  have h:∀(es:List MapEntry) (i:Nat),(∀e∈es,∃a,D a∧e.key=κ a)→(Instr.findNow td (κ k) es i=some none∧∀e∈es,e.key≠κ k)∨∃j e,Instr.findNow td (κ k) es i=some (some (i+j,e.val))∧es[j]?=some e∧e.key=κ k:=by
   intro es;induction es with
   |nil=>intro i _;exact .inl ⟨rfl,by simp⟩
   |cons e es ih=>
    intro i he;obtain ⟨a,_,ea⟩:=he e (by simp);by_cases hk:k=a
    · refine .inr ⟨0,e,?_,rfl,by rw [ea,hk]⟩
      simp only [Instr.findNow,ea,hs,hk,decide_true,wU]
    · rcases ih (i+1) (fun e h=>he e (ug _ h))with⟨h1,h2⟩|⟨j,e',h1,h2,h3⟩
      · refine .inl ⟨?_,fun e' h=>?_⟩
        · simp only [Instr.findNow,ea,hs,hk,decide_false];exact h1
        · rcases uI.1 h with rfl|h
          · rw [ea];exact fun h=>hk (inj _ _ h.symm)
          · exact h2 e' h
      · refine .inr ⟨j+1,e',?_,h2,h3⟩
        simp only [Instr.findNow,ea,hs,hk,decide_false];rw [h1,show i+1+j=i+(j+1) by omega]
  have hrun:∀r,Instr.findNow td (κ k) es 0=some r→(Instr.findKey kt (κ k) es).run P w= .ok r w:=fun r hr=>by
   simp only [Instr.findKey,Sem.run_bind,run_underlying hu,Result.andThen,hr];rfl
  rcases h es 0 he with⟨h1,h2⟩|⟨j,e,h1,h2,h3⟩
  · exact .inl ⟨hrun _ h1,h2⟩
  · exact .inr ⟨j,e,hrun _ (by rw [h1,uL]),h2,h3⟩
 stays:=fun w a _=>hst w a
 inj:=inj
theorem fD{kt:TypeId}(hu:P.underlying kt=some (.int .i64))(w:World)(k:Int)(b:Bool)(n:Nat):(Instr.checkKey b (n+1) kt (I4 k)).run P w= .ok () w:=by
 simp only [Instr.checkKey,Sem.run_bind,run_underlying hu,Result.andThen];rfl
theorem kW(n:Nat)(k:Int):Instr.sameBits (n+1) (I4 k) (I4 k)=true:=by simp [Instr.sameBits]
theorem gQ{v:Value}(h:Instr.sameBits 10000 v v=true)(w:World):(Instr.keyThatStays v v).run P w= .ok v w:=by
 unfold Instr.keyThatStays;rw [if_pos h];rfl
theorem ja{kt:TypeId}{D:Int→Prop}(hu:P.underlying kt=some (.int .i64)):I8 P kt (fun k:Int=>Value.int .i64 k) D:=
 I8.basic hu (fun a b=>by simp only [Instr.sameNow];congr 1) (fun w em a=>fD hu w a em 9999) (fun w a=>gQ (kW 9999 a) w) (fun a b h=>by injection h)
theorem Qj(κ:α→Value):Ex κ #[] 0 []:=⟨rfl,by simp,by simp,by simp⟩
variable{es:Array MapEntry}{clock:Nat}{l:List (α×Value)}{kt:TypeId}
theorem Ex.size(h:Ex κ es clock l):es.size=l.length:=by
 have:=congrArg List.length h.pairs;simpa using this
theorem Ex.at_(h:Ex κ es clock l){j:Nat}{e:MapEntry}(he:es.toList[j]?=some e):∃p,l[j]?=some p∧e.key=κ p.1∧e.val=p.2:=by
 have h1:(es.toList.map (fun e=>(e.key,e.val)))[j]?=some (e.key,e.val):=by rw [uD,he];rfl
 rw [h.pairs,uD]at h1;cases hp:l[j]?with
 |none=>rw [hp]at h1;cases h1
 |some p=>
  rw [hp]at h1;injection h1 with h1
  injection h1 with h2 h3
  exact ⟨p,rfl,h2.symm,h3.symm⟩
theorem Ex.of(h:Ex κ es clock l){j:Nat}{p:α×Value}(hp:l[j]?=some p):∃e,es.toList[j]?=some e∧e.key=κ p.1∧e.val=p.2:=by
 have h1:(l.map (fun p=>(κ p.1,p.2)))[j]?=some (κ p.1,p.2):=by rw [uD,hp];rfl
 rw [←h.pairs,uD]at h1;cases he:es.toList[j]?with
 |none=>rw [he]at h1;cases h1
 |some e=>
  rw [he]at h1;injection h1 with h1
  injection h1 with h2 h3
  exact ⟨e,rfl,h2,h3⟩
theorem KH(hK:I8 P kt κ D)(hm:Ex κ es clock l)(hl:∀p∈l,D p.1)(w:World)(k:α)(hk:D k):
 ((Instr.findKey kt (κ k) es.toList).run P w= .ok none w∧∀p∈l,p.1≠k)∨∃j v,(Instr.findKey kt (κ k) es.toList).run P w= .ok (some (j,v)) w∧l[j]?=some (k,v):=by
 rcases hK.find w k hk es.toList (fun e he=>by
  obtain ⟨j,hj⟩:=uV he;obtain ⟨p,hp,h1,_⟩:=hm.at_ hj;exact ⟨p.1,hl p (tV hp),h1⟩)with⟨h1,h2⟩|⟨j,e,h1,h2,h3⟩
 · refine .inl ⟨h1,fun p hp he=>?_⟩
   obtain ⟨j,hj⟩:=uV hp;obtain ⟨e,h4,h5,_⟩:=hm.of hj;exact h2 e (tV h4) (by rw [h5,he])
 · obtain ⟨p,hp,h4,h5⟩:=hm.at_ h2
   refine .inr ⟨j,e.val,h1,?_⟩;rw [hp,h5,←hK.inj p.1 k (by rw [←h4,h3])]
def IX [DecidableEq α](k:α)(l:List (α×Value)):Option Value:=(l.find? (fun p=>decide (p.1=k))).map (·.2)
theorem OO [DecidableEq α]{k:α}(h:∀p∈l,p.1≠k):IX k l=none:=by
 unfold IX;rw [yc.2 (fun p hp=>by simpa using h p hp)];rfl
theorem Ht [DecidableEq α]{k:α}{v:Value}:∀{l:List (α×Value)},(l.map (·.1)).Nodup→(k,v)∈l→IX k l=some v
 |p::l,hn,h=>by
  rw [uo,xg]at hn;unfold IX;rcases uI.1 h with rfl|h
  · simp
  · rw [List.find?_cons_of_neg (by simp;rintro rfl;exact hn.1 (uh.2 ⟨_,h,rfl⟩))]
    exact Ht hn.2 h
theorem TM [DecidableEq α]{k:α}{v:Value}{l:List (α×Value)}(h:IX k l=some v):(k,v)∈l:=by
 unfold IX at h;cases hf:l.find? (fun p=>decide (p.1=k))with
 |none=>rw [hf]at h;cases h
 |some p=>
  rw [hf]at h;injection h with h
  have h1:=zM hf;have h2:=xZ hf
  simp only [decide_eq_true_eq]at h1;rw [←h1,←h];exact h2
section
variable{env:Env}{d:Option Nat}{ty:TypeId}{pos:String}{af:Array Edge}{g:Option (Nat×Bool)}{t et:TypeId}{r:Nat}{m x y:Operand}{k:α}{v z:Value}
theorem G6(hK:I8 P kt κ D)(hk:D k)(w:World)(em:Bool):(Instr.checkKey em 10000 kt (κ k)).run P w= .ok () w:=by
 exact hK.check w em k hk
theorem ic [DecidableEq α](hK:I8 P kt κ D)(ht:P.underlying t=some (.map kt et))(hz:∀w:World,(zeroValue et).run P w= .ok z w)(hm:Ex κ es clock l)(hl:∀p∈l,D p.1)(hk:D k)(hx:∀a,ev a env m= .map (some r))(hy:∀a,ev a env x=κ k):
 OpP P ⟨d,.lookup t m x true,ty,pos,af,g⟩ env [(r,.map es clock)] (.tuple #[(IX k l).getD z,.bool (IX k l).isSome]):=fun a w hs=>by
 have hb:=hs (r,.map es clock) (by simp);show((do pure (Next.value (←Instr.lookup t (ev a env m) (ev a env x) true))):Sem Next).run P w=_
 rw [hx a,hy a];rcases KH hK hm hl w k hk with⟨h1,h2⟩|⟨j,v,h1,h2⟩
 · rw [OO h2]
   simp only [Instr.lookup,Sem.run_bind,run_underlying ht,Result.andThen,MapKept.run_getObj_map hb,G6 hK hk,Sem.run_pure,h1,hz];rfl
 · rw [Ht hm.keys (tV h2)]
   simp only [Instr.lookup,Sem.run_bind,run_underlying ht,Result.andThen,MapKept.run_getObj_map hb,G6 hK hk,Sem.run_pure,h1];rfl
theorem OG [DecidableEq α]{v0:Value}{b0:Bool}(hK:I8 P kt κ D)(ht:P.underlying t=some (.map kt et))(hz:∀w:World,(zeroValue et).run P w= .ok z w)(hm:Ex κ es clock l)(hl:∀p∈l,D p.1)(hk:D k)(hv:(IX k l).getD z=v0∧(IX k l).isSome=b0)(hx:∀a,ev a env m= .map (some r))(hy:∀a,ev a env x=κ k):
 OpP P ⟨d,.lookup t m x true,ty,pos,af,g⟩ env [(r,.map es clock)] (.tuple #[v0,.bool b0]):=by
 have:=ic (d:=d) (ty:=ty) (pos:=pos) (af:=af) (g:=g) hK ht hz hm hl hk hx hy;rwa [hv.1,hv.2]at this
theorem bu(ht:P.underlying t=some (.map kt et))(hm:Ex κ es clock l)(hx:∀a,ev a env m= .map (some r)):
 OpP P ⟨d,.call ⟨.builtin .len,#[m],#[t]⟩,ty,pos,af,g⟩ env [(r,.map es clock)] (I4 (l.length:Int)):=fun a w hs=>by
 have hb:=hs (r,.map es clock) (by simp);simp [EJ,resolve,invoke,builtin,hx a,Builtin.len_,run_underlying ht,MapKept.run_getObj_map hb,goInt,hm.size]
theorem JC{w:World}{c:Nat}(hr:w.heap[r]?=some (.map es c))(o':Obj):(setObj r o').run P w= .ok () (setBlock w r o'):=by
 simp [setObj,Sem.run,hr,setBlock]
variable{u:World}{H R:Hp}
theorem Np:OpW P u ⟨d,.makeMap t none,ty,pos,af,g⟩ env H (fun v' H1=>∃b,v'= .map (some b)∧H1=[(b,.map #[] 0)]::H) (fun _ _=>False):=fun a w hs K Kp hK _=>by
 have:(execOp (ev a env) ⟨d,.makeMap t none,ty,pos,af,g⟩).run P w= .ok (.value (.map (some w.heap.size))) {w with heap:=w.heap.push (.map #[] 0)}:=by
  show((do pure (Next.value (←Instr.makeMap t none))):Sem Next).run P w=_;rfl
 rw [this];exact hK _ _ _ ⟨_,rfl,rfl⟩ (hs.alloc _)
theorem PQ{w:World}(hone:One [(r,.map es clock)] H R)(hsat:Sat u H w)(o':Obj):w.heap[r]?=some (.map es clock)∧Sat u ([(r,o')]::R) (setBlock w r o'):=by
 have h1:Sat u ([(r,.map es clock)]::R) w:=hsat.perm (by simpa using hone.perm);have hb:=h1.get (r,.map es clock) (by simp)
 have hlt:r<w.heap.size:=(u7.1 hb).1;exact ⟨hb,h1.upd (Upd.here _) rfl rfl rfl (by simp [setBlock,hlt]) (fun j hj=>by simp only [setBlock,xN];rw [if_neg (fun e=>hj e.symm)])⟩
theorem jV{i:Nat}{q:Value}(hp:l[i]?=some (k,q))(v:Value):((l.set i (k,v)).map (·.1))=l.map (·.1):=by
 apply vg;intro j;rw [uD,uD,yF];by_cases hij:i=j
 · subst hij
   have hlt:=(tH.1 hp).1;rw [if_pos rfl,if_pos hlt,hp];rfl
 · rw [if_neg hij]
theorem aR{i j:Nat}{p q:α×Value}(hn:(l.map (·.1)).Nodup)(hp:l[i]?=some p)(hq:l[j]?=some q)(h:p.1=q.1):i=j:=by
 have h1:(l.map (·.1))[i]?=some p.1:=by rw [uD,hp];rfl
 have h2:(l.map (·.1))[j]?=some q.1:=by rw [uD,hq];rfl
 exact (List.getElem?_inj (tH.1 h1).1 hn).1 (by rw [h1,h2,h])
theorem mW{i:Nat}{q:Value}(hn:(l.map (·.1)).Nodup)(hp:l[i]?=some (k,q))(v:Value)(p:α×Value):p∈l.set i (k,v)↔p=(k,v)∨(p∈l∧p.1≠k):=by
 have hlt:=(tH.1 hp).1;constructor
 · intro h
   obtain ⟨j,hj⟩:=uV h;rw [yF]at hj;by_cases hij:i=j
   · rw [if_pos hij,if_pos (by omega)]at hj
     injection hj with hj;exact .inl hj.symm
   · rw [if_neg hij]at hj
     exact .inr ⟨tV hj,fun e=>hij (aR hn hp hj e.symm)⟩
 · rintro (rfl|⟨h,hne⟩)
   · exact tV (by rw [yF,if_pos rfl,if_pos hlt])
   · obtain ⟨j,hj⟩:=uV h
     refine tV (i:=j) ?_;rw [yF,if_neg]
     · exact hj
     · rintro rfl
       rw [hp]at hj;injection hj with hj
       exact hne (by rw [←hj])
theorem KZ(hK:I8 P kt κ D)(ht:P.underlying t=some (.map kt et))(hm:Ex κ es clock l)(hl:∀p∈l,D p.1)(hk:D k)(hx:∀a,ev a env m= .map (some r))(hy:∀a,ev a env x=κ k)(hv:∀a,ev a env y=v)(hone:One [(r,.map es clock)] H R):
 OpW P u ⟨d,.mapUpdate t m x y,ty,pos,af,g⟩ env H (fun v' H1=>v'=undef∧∃es' clock' l',Ex κ es' clock' l'∧(∀p,p∈l'↔p=(k,v)∨(p∈l∧p.1≠k))∧H1=[(r,.map es' clock')]::R) (fun _ _=>False):=fun a w hsat K Kp hK2 _=>by
 obtain ⟨hb,_⟩:=PQ hone hsat (.map es clock)
 suffices hrun:∃es' clock' l',(Instr.mapUpdate t (.map (some r)) (κ k) v).run P w= .ok () (setBlock w r (.map es' clock'))∧Ex κ es' clock' l'∧∀p,p∈l'↔p=(k,v)∨(p∈l∧p.1≠k) by
  obtain ⟨es',clock',l',h1,h2,h3⟩:=hrun;have:(execOp (ev a env) ⟨d,.mapUpdate t m x y,ty,pos,af,g⟩).run P w= .ok .skip (setBlock w r (.map es' clock')):=by
   show((do Instr.mapUpdate t (ev a env m) (ev a env x) (ev a env y);pure Next.skip):Sem Next).run P w=_;rw [hx a,hy a,hv a,Sem.run_bind,h1];rfl
  rw [this];exact hK2 _ _ _ ⟨rfl,es',clock',l',h2,h3,rfl⟩ (PQ hone hsat _).2
 rcases KH hK hm hl w k hk with⟨h1,h2⟩|⟨j,q,h1,h2⟩
 · refine ⟨es.push {key:=κ k,val:=v,born:=clock},clock+1,l++[(k,v)],?_,⟨?_,?_,?_,?_⟩,?_⟩
   · simp only [Instr.mapUpdate,Sem.run_bind,run_underlying ht,Result.andThen,MapKept.run_getObj_map hb,G6 hK hk,h1,JC hb]
   · simp [hm.pairs]
   · simp only [Array.toList_push,uK,uo,wM]
     rw [wD];refine ⟨hm.born,by simp,?_⟩;intro a ha b hb' hab;simp only [uh,tq]at ha hb';obtain ⟨e,he,rfl⟩:=ha;have:=hm.old e he
     omega
   · intro e he
     simp only [Array.toList_push,uF,tq]at he;rcases he with he|rfl
     · have:=hm.old e he;omega
     · simp
   · rw [uK,wD]
     refine ⟨hm.keys,by simp,?_⟩;intro a ha b hb' hab;simp only [uo,wM,tq]at hb';obtain ⟨p,hp,rfl⟩:=uh.1 ha;exact h2 p hp (by rw [hab,hb'])
   · intro p
     rw [uF,tq];constructor
     · rintro (h|rfl)
       · exact .inr ⟨h,h2 p h⟩
       · exact .inl rfl
     · rintro (rfl|⟨h,_⟩)
       · exact .inr rfl
       · exact .inl h
 · obtain ⟨e0,he0,hek,hev⟩:=hm.of h2
   have he1:es[j]?=some e0:=by simpa using he0
   have hst:(Instr.keyThatStays (((es[j]?).map (·.key)).getD (κ k)) (κ k)).run P w= .ok (κ k) w:=by
    rw [he1];show(Instr.keyThatStays e0.key (κ k)).run P w=_
    rw [hek];exact hK.stays w k hk
   refine ⟨es.modify j fun e=>{e with key:=κ k,val:=v},clock,l.set j (k,v),?_,⟨?_,?_,?_,?_⟩,mW hm.keys h2 v⟩
   · simp only [Instr.mapUpdate,Sem.run_bind,run_underlying ht,Result.andThen,MapKept.run_getObj_map hb,G6 hK hk,h1,hst,JC hb]
   · rw [zP]
     apply vg;intro i;have hj:(es.toList.map (fun e=>(e.key,e.val)))[i]?=(l.map (fun p=>(κ p.1,p.2)))[i]?:=by rw [hm.pairs]
     rw [uD,uD]at hj;rw [uD,uD,zG,yF];by_cases hij:j=i
     · subst hij
       rw [if_pos rfl,if_pos (tH.1 h2).1,he0];simp
     · simpa [hij]using hj
   · have:(es.modify j fun e=>{e with key:=κ k,val:=v}).toList.map (·.born)=es.toList.map (·.born):=by
      rw [zP];apply vg;intro i;simp only [uD,zG];by_cases hij:j=i
      · subst hij;cases es.toList[j]?<;>simp
      · simp [hij]
     rw [this];exact hm.born
   · intro e he
     rw [zP]at he;obtain ⟨i,hi⟩:=uV he;simp only [zG]at hi;cases h9:es.toList[i]?with
     |none=>simp [h9]at hi
     |some e1=>
      have:=hm.old e1 (tV h9);by_cases hij:j=i
      · subst hij
        simp only [h9,if_true,Option.map_eq_map,vV,wZ]at hi;subst hi;exact this
      · simp [h9,hij]at hi
        subst hi;exact this
   · rw [jV h2 v];exact hm.keys
theorem fV{t2:TypeId}(hK:I8 P kt κ D)(ht:P.underlying t=some (.map kt et))(hm:Ex κ es clock l)(hl:∀p∈l,D p.1)(hk:D k)(hx:∀a,ev a env m= .map (some r))(hy:∀a,ev a env x=κ k)(hone:One [(r,.map es clock)] H R):
 OpW P u ⟨d,.call ⟨.builtin .delete,#[m,x],#[t,t2]⟩,ty,pos,af,g⟩ env H (fun v' H1=>v'= .tuple #[]∧∃es' clock' l',Ex κ es' clock' l'∧(∀p,p∈l'↔p∈l∧p.1≠k)∧H1=[(r,.map es' clock')]::R) (fun _ _=>False):=fun a w hsat K Kp hK2 _=>by
 obtain ⟨hb,_⟩:=PQ hone hsat (.map es clock)
 suffices hrun:∃es' clock' l',(Builtin.delete_ #[t,t2] ty #[.map (some r),κ k]).run P w= .ok (.tuple #[]) (setBlock w r (.map es' clock'))∧Ex κ es' clock' l'∧∀p,p∈l'↔p∈l∧p.1≠k by
  obtain ⟨es',clock',l',h1,h2,h3⟩:=hrun;have:(execOp (ev a env) ⟨d,.call ⟨.builtin .delete,#[m,x],#[t,t2]⟩,ty,pos,af,g⟩).run P w= .ok (.value (.tuple #[])) (setBlock w r (.map es' clock')):=by
   simp only [EJ,resolve,invoke,builtin,wV,uo,wM,hx a,hy a,Sem.run_bind,Sem.run_pure,Result.andThen_ok,h1]
  rw [this];exact hK2 _ _ _ ⟨rfl,es',clock',l',h2,h3,rfl⟩ (PQ hone hsat _).2
 rcases KH hK hm hl w k hk with⟨h1,h2⟩|⟨j,q,h1,h2⟩
 · refine ⟨es,clock,l,?_,hm,fun p=>⟨fun h=>⟨h,h2 p h⟩,fun h=>h.1⟩⟩
   simp only [Builtin.delete_,xX,vv,wI,Sem.run_bind,run_underlying ht,Result.andThen,MapKept.run_getObj_map hb,G6 hK hk,h1,JC hb,Sem.run_pure]
 · have her:(es.eraseIdxIfInBounds j).toList=es.toList.eraseIdx j:=by
    unfold Array.eraseIdxIfInBounds;split
    · simp
    · rename_i h;rw [List.eraseIdx_of_length_le (by simpa using h)]
   have hsub:(es.toList.eraseIdx j).Sublist es.toList:=List.eraseIdx_sublist _ _;have hmp:∀{α β:Type} (f:α→β) (m:List α) (n:Nat),(m.eraseIdx n).map f=(m.map f).eraseIdx n:=by
    intro α β f m;induction m with
    |nil=>intro n;simp
    |cons x m ih=>intro n;cases n<;>simp [ih]
   refine ⟨es.eraseIdxIfInBounds j,clock,l.eraseIdx j,?_,⟨?_,?_,?_,?_⟩,fun p=>?_⟩
   · simp only [Builtin.delete_,xX,vv,wI,Sem.run_bind,run_underlying ht,Result.andThen,MapKept.run_getObj_map hb,G6 hK hk,h1,JC hb,Sem.run_pure]
   · rw [her,hmp,hm.pairs,hmp]
   · rw [her];exact (hsub.map _).nodup hm.born
   · intro e he
     rw [her]at he;exact hm.old e (hsub.subset he)
   · exact ((List.eraseIdx_sublist l j).map _).nodup hm.keys
   · rw [List.mem_eraseIdx_iff_getElem?]
     constructor
     · rintro ⟨i,hij,hi⟩
       exact ⟨tV hi,fun e=>hij (aR hm.keys hi h2 e)⟩
     · rintro ⟨h,hne⟩
       obtain ⟨i,hi⟩:=uV h;refine ⟨i,?_,hi⟩;rintro rfl;rw [h2]at hi;injection hi with hi
       exact hne (by rw [←hi])
end
end
end Gw
namespace Gw
open Go Go.RowKit
open Go.ChangeMaps
section
variable{α:Type}{κ:α→Value}{P:Program}{es:Array MapEntry}{clock:Nat}{l:List (α×Value)}
structure M8(es:Array MapEntry)(js:List Nat)(seen:Array Nat):Prop where
 nodup:js.Nodup
 lt:∀j∈js,j<es.size
 mem:∀(j:Nat) (e:MapEntry),es.toList[j]?=some e→(seen.contains e.born=true↔j∈js)
 last:∀(j:Nat),js.getLast?=some j→∃e,es.toList[j]?=some e∧∃s0:Array Nat,seen=s0.push e.born
theorem dV(es:Array MapEntry):M8 es [] #[]:=⟨by simp,by simp,by simp,by simp⟩
theorem X7{es:Array MapEntry}(hn:(es.toList.map (·.born)).Nodup){i j:Nat}{a b:MapEntry}(ha:es.toList[i]?=some a)(hb:es.toList[j]?=some b)(h:a.born=b.born):i=j:=by
 have h1:(es.toList.map (·.born))[i]?=some a.born:=by rw [uD,ha];rfl
 have h2:(es.toList.map (·.born))[j]?=some b.born:=by rw [uD,hb];rfl
 exact (List.getElem?_inj (tH.1 h1).1 hn).1 (by rw [h1,h2,h])
theorem M8.push(hm:Ex κ es clock l){js:List Nat}{seen:Array Nat}(h:M8 es js seen){j:Nat}{e:MapEntry}(he:es.toList[j]?=some e)(hj:j∉js):M8 es (js++[j]) (seen.push e.born):=by
 refine ⟨?_,?_,?_,?_⟩
 · rw [wD]
   refine ⟨h.nodup,by simp,?_⟩;intro a ha b hb hab;rw [tq]at hb;subst hb hab;exact hj ha
 · intro i hi
   rcases uF.1 hi with hi|hi
   · exact h.lt i hi
   · rw [tq]at hi
     subst hi;have:=(tH.1 he).1
     simpa using this
 · intro i x hx
   rw [uF,tq,←h.mem i x hx,Array.contains_push];simp only [wh,beq_iff_eq];constructor
   · rintro (hb|hc)
     · first|exact .inr (X7 hm.born hx he hb)|exact .inl hb
     · first|exact .inl hc|exact .inr (X7 hm.born hx he hc)
   · rintro (hc|rfl)
     · first|exact .inr hc|exact .inl hc
     · rw [he]at hx
       injection hx with hx
       subst hx;first|exact .inl rfl|exact .inr rfl
 · intro i hi
   rw [List.getLast?_append]at hi;simp at hi;subst hi;exact ⟨e,he,seen,rfl⟩
def Gy(l:List (α×Value))(js:List Nat):List (α×Value):=js.filterMap (fun j=>l[j]?)
theorem NH(l:List (α×Value))(js:List Nat){j:Nat}{p:α×Value}(hp:l[j]?=some p):Gy l (js++[j])=Gy l js++[p]:=by
 unfold Gy;rw [xY];simp [hp]
theorem RZ(l:List (α×Value)):Gy l (List.range l.length)=l:=by
 have h:∀n,n≤l.length→Gy l (List.range n)=l.take n:=by
  intro n;induction n with
  |zero=>intro _;rfl
  |succ n ih=>
   intro hn;obtain ⟨p,hp⟩:∃p,l[n]?=some p:=⟨_,tF (by omega)⟩;rw [yU,NH l _ hp,ih (by omega),vK,hp];rfl
 rw [h _ (tQ _),uQ]
theorem M8.done(hm:Ex κ es clock l){js:List Nat}{seen:Array Nat}(h:M8 es js seen)(h0:(leftOf es seen).size=0):(Gy l js).Perm l:=by
 have hp:js.Perm (List.range l.length):=by
  rw [xC h.nodup zi];intro j;rw [vO,←hm.size];constructor
  · exact h.lt j
  · intro hj
    have hj2:j<es.toList.length:=by simpa using hj
    have he:es.toList[j]?=some (es.toList[j]):=tF hj2;rw [←h.mem j _ he];unfold leftOf at h0;have h1:=Array.filter_eq_empty_iff.1 (Array.eq_empty_of_size_eq_zero h0)
    have h2:=h1 (es.toList[j]) (zH.1 (zx hj2));simpa using h2
 have:=hp.filterMap (fun j=>l[j]?);exact this.trans (by rw [show(List.range l.length).filterMap (fun j=>l[j]?)=Gy l (List.range l.length) from rfl,RZ])
section
variable{env:Env}{d:Option Nat}{ty:TypeId}{pos:String}{af:Array Edge}{g:Option (Nat×Bool)}{t kt et:TypeId}{r b:Nat}{x:Operand}{u:World}{H R:Hp}
theorem XK(ht:P.underlying t=some (.map kt et))(hx:∀a,ev a env x= .map (some r))(hmap:Has r (.map es clock) H):
 OpW P u ⟨d,.range t x,ty,pos,af,g⟩ env H (fun v' H1=>∃b,v'=I5 b∧H1=[(b,.mapIter (some r) clock #[] clock)]::H) (fun _ _=>False):=fun a w hs K Kp hK _=>by
 have hb:=hs.get _ hmap.mem;have:(execOp (ev a env) ⟨d,.range t x,ty,pos,af,g⟩).run P w= .ok (.value (.pointer (some ⟨w.heap.size,0,none⟩))) {w with heap:=w.heap.push (.mapIter (some r) clock #[] clock)}:=by
  show((do pure (Next.value (←Instr.range t (ev a env x)))):Sem Next).run P w=_;rw [hx a];simp only [Instr.range,Sem.run_bind,run_underlying ht,Result.andThen,MapKept.run_getObj_map hb];rfl
 rw [this];exact hK _ _ _ ⟨_,rfl,rfl⟩ (hs.alloc _)
theorem ll{w:World}{o:Obj}(hone:One [(b,o)] H R)(hsat:Sat u H w)(o':Obj):w.heap[b]?=some o∧Sat u ([(b,o')]::R) (setBlock w b o'):=by
 have h1:Sat u ([(b,o)]::R) w:=hsat.perm (by simpa using hone.perm);have hb:=h1.get (b,o) (by simp)
 have hlt:b<w.heap.size:=(u7.1 hb).1;exact ⟨hb,h1.upd (Upd.here _) rfl rfl rfl (by simp [setBlock,hlt]) (fun j hj=>by simp only [setBlock,xN];rw [if_neg (fun e=>hj e.symm)])⟩
theorem aW(hm:Ex κ es clock l){js:List Nat}{seen:Array Nat}(hi:M8 es js seen)(hx:∀a,ev a env x=I5 b)(hone:One [(b,.mapIter (some r) clock seen clock)] H R)(hmap:Has r (.map es clock) R):
 OpW P u ⟨d,.next x false,ty,pos,af,g⟩ env H (fun v' H1=>((Gy l js).Perm l∧v'= .tuple #[.bool false]∧H1=[(b,.mapIter (some r) clock seen clock)]::R)∨
  ∃j p seen',l[j]?=some p∧j∉js∧M8 es (js++[j]) seen'∧v'= .tuple #[.bool true,κ p.1,p.2]∧H1=[(b,.mapIter (some r) clock seen' clock)]::R) (fun _ _=>False):=fun a w hsat K Kp hK _=>by
 have h1:Sat u ([(b,.mapIter (some r) clock seen clock)]::R) w:=hsat.perm (by simpa using hone.perm);have hb:=h1.get (b,.mapIter (some r) clock seen clock) (by simp)
 have hr:=h1.get (r,.map es clock) (by simp [hmap.mem]);have hx2:(execOp (ev a env) ⟨d,.next x false,ty,pos,af,g⟩)=((do pure (Next.value (←Instr.next (I5 b) false ty))):Sem Next):=by
  rw [←hx a];rfl
 rw [hx2];rcases run_next_at (P:=P) w ty b r clock clock seen es clock hb hr hm.old (tQ _)with⟨hz,hrun⟩|⟨e,he,w1,hw1,hrun⟩
 · rw [Sem.run_bind,hrun]
   exact hK _ _ _ (.inl ⟨hi.done hm hz,rfl,rfl⟩) h1
 · rw [Sem.run_bind,hrun]
   have he2:e∈es.toList∧seen.contains e.born=false:=by
    unfold leftOf at he;simpa using he
   obtain ⟨j,hj⟩:=uV he2.1;obtain ⟨p,hp,hk,hv⟩:=hm.at_ hj;have hnj:j∉js:=fun h=>by
    have:=(hi.mem j e hj).2 h;rw [he2.2]at this;cases this
   refine hK _ _ _ (.inr ⟨j,p,_,hp,hnj,hi.push hm hj hnj,by rw [hk,hv],rfl⟩) ?_;have h2:Sat u H w1:=by
    rcases hw1 with rfl|rfl
    · exact hsat
    · exact hsat.drew
   exact (ll hone h2 _).2
theorem Xz(hm:Ex κ es clock l){js:List Nat}{seen:Array Nat}{j:Nat}{p:α×Value}(hi:M8 es (js++[j]) seen)(hp:l[j]?=some p)(hx:∀a,ev a env x=I5 b):
 OpP P ⟨d,.entry x,ty,pos,af,g⟩ env [(b,.mapIter (some r) clock seen clock),(r,.map es clock)] (.tuple #[κ p.1,p.2]):=fun a w hs=>by
 have hb:=hs (b,.mapIter (some r) clock seen clock) (by simp);have hr:=hs (r,.map es clock) (by simp)
 obtain ⟨e,he,s0,rfl⟩:=hi.last j (by simp);obtain ⟨p2,hp2,hk,hv⟩:=hm.at_ he;rw [hp]at hp2;injection hp2 with hp2
 subst hp2;have hrun:=run_entry_at (P:=P) w b r clock s0 es clock e hb hr (tV he) hm.born
 show((do pure (Next.value (←Instr.entry (ev a env x)))):Sem Next).run P w=_;rw [hx a,Sem.run_bind,hrun,hk,hv];rfl
end
end
end Gw
