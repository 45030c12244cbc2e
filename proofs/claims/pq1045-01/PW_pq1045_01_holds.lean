import PyProof.Rows.All
import Wide.All
import OpenK.AllK
import Wide.FinOn
import Lean
import PySem.Challenge.RW_pq1045_01
open PySem PySem.W PySem.Calls PyProof.Rows
set_option linter.all false
set_option compiler.extract_closed false
set_option Elab.async false
set_option maxRecDepth 100000
set_option maxHeartbeats 4000000
set_option tactic.hygienic false
noncomputable section
namespace Mine
open Lean in
def aW:Syntax:=Unhygienic.run `(tacticSeq| intro _; rfl)
open Lean in
def bD:Syntax:=Unhygienic.run `(tacticSeq| intro _ _; rfl)
open Lean in
def Br:Syntax:=Unhygienic.run `(tacticSeq| intro _ _; exact ⟨_,rfl⟩)
open Lean in
def y7:Syntax:=Unhygienic.run `(tacticSeq| rfl)
open Lean in
def VN:Syntax:=Unhygienic.run `(tacticSeq| decide)
end Mine
namespace Mine
section
set_option bootstrap.genMatcherCode false
inductive AV where
 | none
 | bool (b:Bool)
 | int (i:Int)
 | str (s:List Nat)
 | val (v:Value)
 | tup (xs:List AV)
 | lst (xs:List AV)
 | arg (xs:List AV)
 | cell (i:Nat)
 | rng (a b c:Int)
 | obj (C:Addr) (ks:List Str) (vs:List AV)
noncomputable def KeysAre (P:Params):List DictEntry→List Str→Prop
 | [],[]=>True
 | e :: es,k :: ks=>(∃ t,e.key = .str k t)∧e.hash = PyData.keyHash P k∧KeysAre P es ks
 | _,_=>False
structure FF where
 f:Addr→Option Obj
 io:List (Addr × Addr)
mutual
noncomputable def AVR (P:Params) (F:FF):Value→AV→Prop
 | v,.none=>v = .none
 | v,.bool b=>v = .bool b
 | v,.int i=>∃ t,v = .int i t
 | v,.str l=>∃ t,v = .str ⟨l.toArray⟩ t
 | v,.val w=>v = w
 | v,.tup xs=>∃ a o n items,v = .ref a∧F.f a = some o∧o.cls = .type "tuple"∧o.data = .seq ⟨items⟩ n∧af P F items xs
 | v,.lst xs=>∃ a n items,v = .ref a∧F.f a = some { cls:=.type "list",dict:=none,data:=.seq ⟨items⟩ n,slots:=#[] }∧af P F items xs
 | v,.arg xs=>∃ a o n items,v = .ref a∧F.f a = some o∧o.cls = .type "list"∧o.data = .seq ⟨items⟩ n∧af P F items xs
 | v,.cell i=>∃ a d,F.io[i]? = some (a,d)∧v = .ref a
 | v,.rng a b c=>∃ r t u w,v = .ref r∧F.f r = some { cls:=.type "range",data:=.fields #[.int a t,.int b u,.int c w] }
 | v,.obj C ks as=>∃ a d es m,v = .ref a∧F.f a = some (instObj C d)∧F.f d = some (dictOf es m)∧KeysAre P es ks∧af P F (es.map (fun zz=>zz.val)) as
noncomputable def af (P:Params) (F:FF):List Value→List AV→Prop
 | vs,[]=>vs = []
 | vs,a :: as=>∃ v r,vs = v :: r∧AVR P F v a∧af P F r as
end
noncomputable def aX (P:Params) (F:FF):List DictEntry→List (Str × AV)→Prop
 | es,[]=>es = []
 | es,(k,a) :: as=>∃ e r t,es = e :: r∧e.key = .str k t∧e.hash = PyData.keyHash P k∧AVR P F e.val a∧aX P F r as
noncomputable def FLe (F F':FF):Prop:=(∀ a o,F.f a = some o→F'.f a = some o)∧∀ (i:Nat) p,F.io[i]? = some p→F'.io[i]? = some p
theorem FLe.refl {F:FF}:FLe F F:=⟨fun zz zz h=>h,fun zz zz h=>h⟩
theorem FLe.trans {F G K:FF} (h:FLe F G) (k:FLe G K):FLe F K:=⟨fun a o e=>k.1 a o (h.1 a o e),fun a o e=>k.2 a o (h.2 a o e)⟩
mutual
theorem AVR.mono {P:Params} {F F':FF} (h:FLe F F'):∀ {v:Value} {a:AV},AVR P F v a→AVR P F' v a
 | _,.none,r=>by simpa only [AVR] using r
 | _,.bool _,r=>by simpa only [AVR] using r
 | _,.int _,r=>by simpa only [AVR] using r
 | _,.str _,r=>by simpa only [AVR] using r
 | _,.val _,r=>by simpa only [AVR] using r
 | _,.tup xs,r=>by
  simp only [AVR] at r ⊢
  obtain ⟨a,o,n,items,e1,e2,e3,e4,e5⟩:=r
  exact ⟨a,o,n,items,e1,h.1 _ _ e2,e3,e4,af.mono h e5⟩
 | _,.lst xs,r=>by
  simp only [AVR] at r ⊢
  obtain ⟨a,n,items,e1,e2,e5⟩:=r
  exact ⟨a,n,items,e1,h.1 _ _ e2,af.mono h e5⟩
 | _,.arg xs,r=>by
  simp only [AVR] at r ⊢
  obtain ⟨a,o,n,items,e1,e2,e3,e4,e5⟩:=r
  exact ⟨a,o,n,items,e1,h.1 _ _ e2,e3,e4,af.mono h e5⟩
 | _,.cell i,r=>by
  simp only [AVR] at r ⊢
  obtain ⟨a,d,e1,e2⟩:=r
  exact ⟨a,d,h.2 _ _ e1,e2⟩
 | _,.rng a b c,r=>by
  simp only [AVR] at r ⊢
  obtain ⟨x,t,u,w,e1,e2⟩:=r
  exact ⟨x,t,u,w,e1,h.1 _ _ e2⟩
 | _,.obj C ks as,r=>by
  simp only [AVR] at r ⊢
  obtain ⟨a,d,es,m,e1,e2,e3,e4,e5⟩:=r
  exact ⟨a,d,es,m,e1,h.1 _ _ e2,h.1 _ _ e3,e4,af.mono h e5⟩
theorem af.mono {P:Params} {F F':FF} (h:FLe F F'):∀ {vs:List Value} {as:List AV},af P F vs as→af P F' vs as
 | _,[],r=>by simpa only [af] using r
 | _,a :: as,r=>by
  simp only [af] at r ⊢
  obtain ⟨v,r',e1,e2,e3⟩:=r
  exact ⟨v,r',e1,AVR.mono h e2,af.mono h e3⟩
end
theorem aX.mono {P:Params} {F F':FF} (h:FLe F F'):∀ {es:List DictEntry} {fs:List (Str × AV)},aX P F es fs→aX P F' es fs
 | _,[],r=>by simpa only [aX] using r
 | _,(k,a) :: as,r=>by
  simp only [aX] at r ⊢
  obtain ⟨e,r',t,e1,e2,e3,e4,e5⟩:=r
  exact ⟨e,r',t,e1,e2,e3,AVR.mono h e4,aX.mono h e5⟩
theorem af.len {P:Params} {F:FF}:∀ {vs:List Value} {as:List AV},af P F vs as→vs.length = as.length
 | _,[],r=>by simp only [af] at r; subst r; rfl
 | _,a :: as,r=>by
  simp only [af] at r
  obtain ⟨v,r',rfl,_,e3⟩:=r
  simp only [List.length_cons,af.len e3]
theorem af.nil {P:Params} {F:FF}:af P F [] []:=by simp only [af]
theorem af.cons {P:Params} {F:FF} {v:Value} {a:AV} {vs:List Value} {as:List AV} (h:AVR P F v a) (r:af P F vs as):af P F (v :: vs) (a :: as):=by
 simp only [af]; exact ⟨v,vs,rfl,h,r⟩
theorem af.app {P:Params} {F:FF}:∀ {vs:List Value} {as:List AV} {us:List Value} {bs:List AV},af P F vs as→af P F us bs→af P F (vs++us) (as++bs)
 | _,[],_,_,r,q=>by simp only [af] at r; subst r; exact q
 | _,a :: as,_,_,r,q=>by
  simp only [af] at r
  obtain ⟨v,r',rfl,h,e3⟩:=r
  exact af.cons h (af.app e3 q)
theorem af.at {P:Params} {F:FF}:∀ {vs:List Value} {as:List AV} (i:Nat) {a:AV},af P F vs as→as[i]? = some a→∃ v,vs[i]? = some v∧AVR P F v a
 | _,[],i,_,_,e=>by simp at e
 | _,a :: as,0,_,r,e=>by
  simp only [af] at r
  obtain ⟨v,r',rfl,h,e3⟩:=r
  simp at e; subst e
  exact ⟨v,rfl,h⟩
 | _,a :: as,i + 1,_,r,e=>by
  simp only [af] at r
  obtain ⟨v,r',rfl,h,e3⟩:=r
  exact af.at i e3 (by simpa using e)
theorem af.take {P:Params} {F:FF}:∀ {vs:List Value} {as:List AV} (i:Nat),af P F vs as→af P F (vs.take i) (as.take i)
 | _,_,0,r=>by simp [af]
 | _,[],i + 1,r=>by simp only [af] at r; subst r; simp [af]
 | _,a :: as,i + 1,r=>by
  simp only [af] at r
  obtain ⟨v,r',rfl,h,e3⟩:=r
  exact af.cons h (af.take i e3)
theorem af.rev {P:Params} {F:FF}:∀ {vs:List Value} {as:List AV},af P F vs as→af P F vs.reverse as.reverse
 | _,[],r=>by simp only [af] at r; subst r; simp [af]
 | _,a :: as,r=>by
  simp only [af] at r
  obtain ⟨v,r',rfl,h,e3⟩:=r
  rw [List.reverse_cons,List.reverse_cons]
  exact af.app (af.rev e3) (af.cons h .nil)
inductive Cell where
 | list (xs:List AV)
 | inst (C:Addr) (fs:List (Str × AV))
 | dict (kvs:List (Str × AV))
noncomputable abbrev HS:=List Cell
noncomputable def du (p:Addr × Addr):List Addr:=if p.2 = p.1 then [p.1] else [p.1,p.2]
noncomputable def au:List (Addr × Addr)→List Addr
 | []=>[]
 | p :: r=>du p++au r
theorem b8:∀ (a b:List (Addr × Addr)),au (a++b) = au a++au b
 | [],_=>rfl
 | p :: r,b=>by simp [au,b8 r b]
theorem aN {p:Addr × Addr} {b:Addr}:b ∈ du p ↔ b = p.1 ∨ b = p.2:=by
 unfold du
 by_cases h:p.2 = p.1
 ·simp [h]
 ·simp [h]
theorem fg {p:Addr × Addr} {b:Addr}:∀ {l:List (Addr × Addr)},p ∈ l→(b = p.1 ∨ b = p.2)→b ∈ au l
 | q :: r,hm,hb=>by
  rcases List.mem_cons.mp hm with rfl | hm
  ·exact List.mem_append.mpr (.inl (aN.mpr hb))
  ·exact List.mem_append.mpr (.inr (fg hm hb))
theorem DP {b:Addr}:∀ {l:List (Addr × Addr)},b ∈ au l→∃ p ∈ l,b = p.1 ∨ b = p.2
 | q :: r,hm=>by
  rcases List.mem_append.mp hm with h | h
  ·exact ⟨q,.head _,aN.mp h⟩
  ·obtain ⟨p,hp,hb⟩:=DP h
   exact ⟨p,.tail _ hp,hb⟩
inductive LstR (P:Params) (F:FF) (h:Heap) (p:Addr × Addr) (xs:List AV):Prop
 | mk (q:p.2 = p.1) (o:Obj) (n:Nat) (items:List Value) (e1:h.get? p.1 = some o) (e2:o.cls = .type "list") (e3:o.data = .seq ⟨items⟩ n) (e4:af P F items xs) (e5:o.dict = none) (e6:o.slots = #[])
inductive InsR (P:Params) (F:FF) (h:Heap) (p:Addr × Addr) (C:Addr) (fs:List (Str × AV)):Prop
 | mk (q:p.2 ≠ p.1) (es:List DictEntry) (n:Nat) (e1:h.get? p.1 = some (instObj C p.2)) (e2:h.get? p.2 = some (dictOf es n)) (e3:aX P F es fs)
inductive DicR (P:Params) (F:FF) (h:Heap) (p:Addr × Addr) (kvs:List (Str × AV)):Prop
 | mk (q:p.2 = p.1) (o:Obj) (es:Array DictEntry) (n:Nat) (e1:h.get? p.1 = some o) (e2:o.ExactDict) (e3:o.data = .dict es n) (e4:aX P F es.toList kvs) (e5:(kvs.map (fun zz=>zz.1)).Nodup)
noncomputable def bo (P:Params) (F:FF) (h:Heap) (p:Addr × Addr):Cell→Prop
 | .list xs=>LstR P F h p xs
 | .inst C fs=>InsR P F h p C fs
 | .dict kvs=>DicR P F h p kvs
theorem bo.mono {P:Params} {F F':FF} (h:FLe F F') {hh:Heap} {p:Addr × Addr} {c:Cell} (r:bo P F hh p c):bo P F' hh p c:=by
 cases c with
 | list=>obtain ⟨q,o,n,items,e1,e2,e3,e4,e5,e6⟩:=r; exact .mk q o n items e1 e2 e3 (e4.mono h) e5 e6
 | inst=>obtain ⟨q,es,n,e1,e2,e3⟩:=r; exact .mk q es n e1 e2 (e3.mono h)
 | dict=>obtain ⟨q,o,es,n,e1,e2,e3,e4,e5⟩:=r; exact .mk q o es n e1 e2 e3 (e4.mono h) e5
theorem bo.heap {P:Params} {F:FF} {hh hh':Heap} {p:Addr × Addr} {c:Cell} (r:bo P F hh p c) (k:∀ b o,(b = p.1 ∨ b = p.2)→hh.get? b = some o→hh'.get? b = some o):bo P F hh' p c:=by
 cases c with
 | list=>obtain ⟨q,o,n,items,e1,e2,e3,e4,e5,e6⟩:=r; exact .mk q o n items (k _ _ (.inl rfl) e1) e2 e3 e4 e5 e6
 | inst=>obtain ⟨q,es,n,e1,e2,e3⟩:=r; exact .mk q es n (k _ _ (.inl rfl) e1) (k _ _ (.inr rfl) e2) e3
 | dict=>obtain ⟨q,o,es,n,e1,e2,e3,e4,e5⟩:=r; exact .mk q o es n (k _ _ (.inl rfl) e1) e2 e3 e4 e5
theorem bo.there {P:Params} {F:FF} {hh:Heap} {p:Addr × Addr} {c:Cell} (r:bo P F hh p c) (b:Addr) (h:b = p.1 ∨ b = p.2):∃ o,hh.get? b = some o:=by
 cases c with
 | list=>obtain ⟨q,o,n,items,e1⟩:=r; exact ⟨_,(h.elim id fun h=>h.trans q) ▸ e1⟩
 | inst=>obtain ⟨q,es,n,e1,e2,e3⟩:=r; exact h.elim (fun h=>⟨_,h ▸ e1⟩) fun h=>⟨_,h ▸ e2⟩
 | dict=>obtain ⟨q,o,es,n,e1⟩:=r; exact ⟨_,(h.elim id fun h=>h.trans q) ▸ e1⟩
structure Base where
 prog:Program
 w:World
 K:Frag
 p:Program
 loose:List Str
 mg:Str→Option Value
 mb:Str→Option Value
 nb:Nat
 gens:Array GenState
 drawn:Drawn
 os:OsState
structure Good (B:Base) (hp:Heap):Prop where
 X:B.K.In hp
 T:TopRead B.p B.loose B.mg B.mb hp
 last:∃ o,hp.get? (B.nb - 1) = some o
 pos:0 < B.nb
theorem Good.keeps {B:Base} {h h':Heap} (G:Good B h) (k:∀ b o,h.get? b = some o→h'.get? b = some o):Good B h' :=
 ⟨G.X.keeps k,G.T.keeps k,let ⟨o,e⟩:=G.last; ⟨o,k _ _ e⟩,G.pos⟩
structure RelG (B:Base) (hp:Heap) (F:FF) (H:HS) (s:Shared):Prop where
 fr:∀ a o,F.f a = some o→s.heap.get? a = some o
 fk:∀ a ∈ au F.io,F.f a = none
 fK:∀ a o,B.K.lookup a = some o→F.f a = some o
 hl:F.io.length = H.length
 hc:∀ (i:Nat) p c,F.io[i]? = some p→H[i]? = some c→bo B.w.params F s.heap p c
 hn:(au F.io).Nodup
 hk:∀ k ∈ au F.io,hp.get? k = none∧B.nb≤k
 kp:∀ b o,hp.get? b = some o→s.heap.get? b = some o
 gd:Good B hp
 eg:s.gens = B.gens
 ed:s.drawn = B.drawn
 eo:s.os = B.os
theorem RelG.size {B:Base} {hp:Heap} {F:FF} {H:HS} {s:Shared} (R:RelG B hp F H s):B.nb≤s.heap.objs.size:=by
 obtain ⟨o,e⟩:=R.gd.last
 have h1:@LT.lt Nat _ (B.nb - 1) s.heap.objs.size:=Heap.lt_size (R.kp _ _ e)
 have h2:@LT.lt Nat _ 0 B.nb:=R.gd.pos
 lia
theorem RelG.good {B:Base} {hp:Heap} {F:FF} {H:HS} {s:Shared} (R:RelG B hp F H s):Good B s.heap:=R.gd.keeps R.kp
theorem RelG.there {B:Base} {hp:Heap} {F:FF} {H:HS} {s:Shared} (R:RelG B hp F H s) {b:Addr} (h:b ∈ au F.io):∃ o,s.heap.get? b = some o:=by
 obtain ⟨p,hp,hb⟩:=DP h
 obtain ⟨i,hi,e⟩:=List.getElem_of_mem hp
 have hi':i < H.length:=R.hl ▸ hi
 exact (R.hc i p H[i] (by rw [List.getElem?_eq_getElem hi,e]) (List.getElem?_eq_getElem hi')).there b hb
noncomputable def bk (hp:Heap) (F F':FF):Prop:=FLe F F'∧∀ a o,F'.f a = some o→(F.f a = some o ∨ hp.get? a = none)
theorem bk.refl {hp:Heap} {F:FF}:bk hp F F:=⟨.refl,fun zz zz h=>.inl h⟩
theorem bk.trans {hp:Heap} {F F' F'':FF} (h:bk hp F F') (k:bk hp F' F''):bk hp F F'' :=
 ⟨h.1.trans k.1,fun a o e=>(k.2 a o e).elim (fun e=>h.2 a o e) .inr⟩
noncomputable def dQ (n:Nat) (A:Around):Prop:=A.handled = none∧A.depth + 2 * n < recursionLimit∧A.units + 10 * n + 200 < cLine
noncomputable abbrev NoE:Value→Shared→Prop:=fun zz zz=>False
inductive EG {α β:Type} (B:Base) (hp:Heap) (F:FF) (RV:FF→α→β→Prop) (Q:β→HS→Prop) (v:α) (s':Shared):Prop
 | mk (F':FF) (b:β) (H':HS) (g:bk hp F F') (r:RelG B hp F' H' s') (a:RV F' v b) (q:Q b H')
noncomputable def GW {α β:Type} (B:Base) (RV:FF→α→β→Prop) (n:Nat) (H:HS) (args:List AV) (t:List Value→Sem α) (Q:β→HS→Prop):Prop :=
 ∀ A hp F s vs,dQ n A→RelG B hp F H s→af B.w.params F vs args →
  wpAny (model B.prog B.w) A (t vs) (EG B hp F RV Q) NoE s
theorem GW.mono {α β:Type} {B:Base} {RV:FF→α→β→Prop} {n:Nat} {H:HS} {args:List AV} {t:List Value→Sem α} {Q Q':β→HS→Prop} (h:GW B RV n H args t Q) (k:∀ b H',Q b H'→Q' b H'):GW B RV n H args t Q' :=
 fun A hp F s vs hA R hv=>wpAny_mono (h A hp F s vs hA R hv) (fun _ _ ⟨F',b,H',g,r,v,q⟩=>⟨F',b,H',g,r,v,k _ _ q⟩) fun zz zz x=>x
noncomputable abbrev Loc:=List (Str × Option AV)
noncomputable def Iq (B:Base) (F:FF) (env:Env) (m:Str→Option Value) (h:Heap) (x:Str) (a:AV):Prop :=
 (env.kindOf x = some .local∧∃ v,m x = some v∧AVR B.w.params F v a) ∨
 ((env.kindOf x = some .cell ∨ (env.kindOf x = some .free∧(x == ("__classdict__":Str)) = false)) ∧
  ∃ c o v,env.cells.lookup x = some c∧h.get? c = some o∧o.data = .cell (some v)∧AVR B.w.params F v a∧c ≠ env.locals∧c ∉ au F.io)
inductive NsR (B:Base) (F:FF) (env:Env) (loc:Loc) (h:Heap):Prop
 | mk (m:Str→Option Value) (n:h.Ns env.locals m) (l:∀ x a,(x,some a) ∈ loc→Iq B F env m h x a)
structure RelF (B:Base) (hp:Heap) (F:FF) (sc:List (Str × NameKind)) (env:Env) (loc:Loc) (H:HS) (s:Shared):Prop where
 g:RelG B hp F H s
 fk:env.scope.kind = .function
 eg:env.globals = mainGlobals
 eb:env.builtins = builtinsNs
 gk:∀ x k,(x,k) ∈ sc→k = .globalImplicit ∨ k = .local ∨ k = .cell→env.kindOf x = some k
 lk:∀ x,x ∈ loc.map (fun zz=>zz.1)→env.kindOf x = some .local ∨ env.kindOf x = some .cell ∨ env.kindOf x = some .free
 nd:(loc.map (fun zz=>zz.1)).Nodup
 db:∀ x ∈ loc.map (fun zz=>zz.1),(x == ("__debug__":Str)) = false
 hL:hp.get? env.locals = none
 fL:F.f env.locals = none
 kL:env.locals ∉ au F.io
 cl:∀ x c,env.cells.lookup x = some c→(∃ o,s.heap.get? c = some o)∧c ∉ au F.io∧c ≠ env.locals
 ns:NsR B F env loc s.heap
inductive EF {α β:Type} (B:Base) (hp:Heap) (F:FF) (sc:List (Str × NameKind)) (env:Env) (loc:Loc) (RV:FF→α→β→Prop) (Q:β→HS→Prop) (v:α) (s':Shared):Prop
 | mk (F':FF) (b:β) (H':HS) (g:bk hp F F') (r:RelF B hp F' sc env loc H' s') (a:RV F' v b) (q:Q b H')
inductive EL {α β:Type} (B:Base) (hp:Heap) (F:FF) (sc:List (Str × NameKind)) (env:Env) (loc:Loc) (s:Shared) (RV:FF→α→β→Prop) (Q:β→HS→Prop) (v:α) (s':Shared):Prop
 | mk (F':FF) (b:β) (H':HS) (g:bk hp F F') (r:RelF B hp F' sc env loc H' s') (a:RV F' v b) (q:Q b H') (k:∀ b o,s.heap.get? b = some o→b ∉ au F.io→s'.heap.get? b = some o)
noncomputable def tt (hp:Heap) (F:FF) (ps:List Addr):Prop:=∀ b ∈ ps,b ∉ au F.io∧F.f b = none∧hp.get? b = none
noncomputable def bw (hp:Heap) (F:FF) (env:Env) (ps:List Addr):Prop:=tt hp F ps∧∀ b ∈ ps,b ≠ env.locals∧∀ x c,env.cells.lookup x = some c→b ≠ c
theorem bw.nil {hp:Heap} {F:FF} {env:Env}:bw hp F env []:=⟨fun b hb=>(nomatch hb),fun b hb=>(nomatch hb)⟩
section
variable {B:Base} {H:HS} {sc:List (Str × NameKind)} {loc:Loc}
inductive UnderR (B:Base) (hp:Heap) (F:FF) (sc:List (Str × NameKind)) (env:Env) (loc:Loc) (H:HS) (s:Shared) (qs:List Addr):Prop
 | mk (hp2:Heap) (R:RelG B hp2 F H s) (P:tt hp2 F qs) (into:∀ b o,s.heap.get? b = some o→b ∉ au F.io→b ∉ qs→hp2.get? b = some o)
  (back:∀ F' H' s',bk hp2 F F'→RelG B hp2 F' H' s'→bk hp F F'∧RelF B hp F' sc env loc H' s')
theorem RelF.under {hp:Heap} {F:FF} {env:Env} {s:Shared} {qs:List Addr} (R:RelF B hp F sc env loc H s) (P:bw hp F env qs):UnderR B hp F sc env loc H s qs:=by
 have sub:∀ b o,hp.get? b = some o→(hideAll s.heap (au F.io++qs)).get? b = some o:=fun b o e=>hideAll_get _ (R.g.kp b o e) (fun q=>by
  rcases List.mem_append.mp q with q | q
  ·rw [(R.g.hk b q).1] at e; cases e
  ·rw [(P.1 b q).2.2] at e; cases e)
 have none_of:∀ k,(hideAll s.heap (au F.io++qs)).get? k = none→hp.get? k = none:=fun k e=>by
  cases q:hp.get? k with
  | none=>rfl
  | some o=>rw [sub _ _ q] at e; cases e
 have into:∀ b o,s.heap.get? b = some o→b ∉ au F.io→b ∉ qs→(hideAll s.heap (au F.io++qs)).get? b = some o:=fun b o e h1 h2=>hideAll_get _ e (fun w=>(List.mem_append.mp w).elim h1 h2)
 refine ⟨hideAll s.heap (au F.io++qs),⟨R.g.fr,R.g.fk,R.g.fK,R.g.hl,R.g.hc,R.g.hn,fun k hk=>⟨hideAll_none _ (List.mem_append.mpr (.inl hk)),(R.g.hk k hk).2⟩,fun b o e=>of_hideAll _ e,R.g.gd.keeps sub,R.g.eg,R.g.ed,R.g.eo⟩,
  fun b hb=>⟨(P.1 b hb).1,(P.1 b hb).2.1,hideAll_none _ (List.mem_append.mpr (.inr hb))⟩,into,fun F' H' s' g R'=>⟨⟨g.1,fun a o e=>(g.2 a o e).imp id (none_of a)⟩,?_⟩⟩
 obtain ⟨m,hm,hl⟩:=R.ns
 have kL:env.locals ∉ qs:=fun q=>(P.2 _ q).1 rfl
 have kC:∀ x c,env.cells.lookup x = some c→c ∉ qs:=fun x c e q=>(P.2 _ q).2 x c e rfl
 have off:∀ b o,(hideAll s.heap (au F.io++qs)).get? b = some o→b ∉ au F'.io:=fun b o e q=>by rw [(R'.hk b q).1] at e; cases e
 obtain ⟨oL,hoL⟩:∃ o,s.heap.get? env.locals = some o:=by
  obtain ⟨o,es,ep,ho,_⟩:=hm; exact ⟨o,ho⟩
 have hL2:=into _ _ hoL R.kL kL
 refine ⟨⟨R'.fr,R'.fk,R'.fK,R'.hl,R'.hc,R'.hn,fun q hq=>⟨none_of q (R'.hk q hq).1,(R'.hk q hq).2⟩,fun b o e=>R'.kp b o (sub b o e),R.g.gd,R'.eg,R'.ed,R'.eo⟩,
  R.fk,R.eg,R.eb,R.gk,R.lk,R.nd,R.db,R.hL,?_,off _ _ hL2,fun x c e=>?_,m,?_,fun x a hx=>?_⟩
 ·cases q:F'.f env.locals with
  | none=>rfl
  | some o =>
   rcases g.2 _ _ q with z | z
   ·rw [R.fL] at z; cases z
   ·rw [hL2] at z; cases z
 ·obtain ⟨⟨o,ho⟩,k1,k2⟩:=R.cl x c e
  have e2:=into _ _ ho k1 (kC x c e)
  exact ⟨⟨o,R'.kp _ _ e2⟩,off _ _ e2,k2⟩
 ·obtain ⟨o,es,ep,ho,r⟩:=hm
  exact ⟨o,es,ep,R'.kp _ _ (into _ _ ho R.kL kL),r⟩
 ·rcases hl x a hx with ⟨q,v,hv,hr⟩ | ⟨q,c,o,v,h1,h2,h3,h4,h5,h6⟩
  ·exact .inl ⟨q,v,hv,hr.mono g.1⟩
  ·have e2:=into _ _ h2 h6 (kC x c h1)
   exact .inr ⟨q,c,o,v,h1,R'.kp _ _ e2,h3,h4.mono g.1,h5,off _ _ e2⟩
end
theorem WD {α β:Type} {B:Base} {RV:FF→α→β→Prop} {n:Nat} {H:HS} {args:List AV} {t:List Value→Sem α} {Q:β→HS→Prop} (h:GW B RV n H args t Q)
  {A:Around} {hp:Heap} {F:FF} {sc:List (Str × NameKind)} {env:Env} {loc:Loc} {s:Shared} {vs:List Value} (hA:dQ n A) (R:RelF B hp F sc env loc H s) (hv:af B.w.params F vs args) :
  wpAny (model B.prog B.w) A (t vs) (EL B hp F sc env loc s RV Q) NoE s:=by
 obtain ⟨hp2,R2,_,into,back⟩:=R.under bw.nil
 refine wpAny_mono (h A _ F s vs hA R2 hv) (fun v s' hr=>?_) fun zz zz x=>x
 obtain ⟨F',b,H',gr,R',hb,q⟩:=hr
 obtain ⟨g,r⟩:=back F' H' s' gr R'
 exact ⟨F',b,H',g,r,hb,q,fun b o e k=>R'.kp b o (into b o e k (by intro q; cases q))⟩
theorem RelG.ext {B:Base} {hp:Heap} {F:FF} {H:HS} {s:Shared} {h':Heap} {tk:Nat} (R:RelG B hp F H s) (k:∀ b o,s.heap.get? b = some o→h'.get? b = some o):RelG B hp F H { s with heap:=h',toks:=tk } :=
 ⟨fun a o e=>k _ _ (R.fr a o e),R.fk,R.fK,R.hl,fun i p c h1 h2=>(R.hc i p c h1 h2).heap fun b o zz e=>k b o e,R.hn,R.hk,fun b o e=>k _ _ (R.kp b o e),R.gd,R.eg,R.ed,R.eo⟩
theorem RelF.ext {B:Base} {hp:Heap} {F:FF} {sc:List (Str × NameKind)} {env:Env} {loc:Loc} {H:HS} {s:Shared} {h':Heap} {tk:Nat} (R:RelF B hp F sc env loc H s) (k:∀ b o,s.heap.get? b = some o→h'.get? b = some o) :
  RelF B hp F sc env loc H { s with heap:=h',toks:=tk }:=by
 obtain ⟨m,hm,hl⟩:=R.ns
 refine ⟨R.g.ext k,R.fk,R.eg,R.eb,R.gk,R.lk,R.nd,R.db,R.hL,R.fL,R.kL,fun x c e=>let ⟨⟨o,ho⟩,k1,k2⟩:=R.cl x c e; ⟨⟨o,k _ _ ho⟩,k1,k2⟩,m,hm.keeps k,fun x a hx=>?_⟩
 rcases hl x a hx with z | ⟨q,c,o,v,h1,h2,h3,h4,h5,h6⟩
 ·exact .inl z
 ·exact .inr ⟨q,c,o,v,h1,k _ _ h2,h3,h4,h5,h6⟩
theorem RelG.toks {B:Base} {hp:Heap} {F:FF} {H:HS} {s:Shared} {tk:Nat} (R:RelG B hp F H s):RelG B hp F H { s with toks:=tk }:=R.ext fun zz zz e=>e
theorem RelF.toks {B:Base} {hp:Heap} {F:FF} {sc:List (Str × NameKind)} {env:Env} {loc:Loc} {H:HS} {s:Shared} {tk:Nat} (R:RelF B hp F sc env loc H s):RelF B hp F sc env loc H { s with toks:=tk }:=R.ext fun zz zz e=>e
noncomputable def FF.put (F:FF) (a:Addr) (o:Obj):FF:=⟨fun b=>if b = a then some o else F.f b,F.io⟩
theorem FF.put_le {F:FF} {a:Addr} {o:Obj} (h:F.f a = none):FLe F (F.put a o):=⟨fun b o' e=>by
 unfold FF.put
 dsimp only
 by_cases q:b = a
 ·subst q; rw [h] at e; cases e
 ·rw [if_neg q]; exact e,fun zz zz e=>e⟩
theorem FF.put_self {F:FF} {a:Addr} {o:Obj}:(F.put a o).f a = some o:=by unfold FF.put; dsimp only; rw [if_pos rfl]
theorem FF.put_of {F:FF} {a b:Addr} {o o':Obj} (h:(F.put a o).f b = some o'):(b = a∧o = o') ∨ F.f b = some o':=by
 unfold FF.put at h
 dsimp only at h
 by_cases q:b = a
 ·rw [if_pos q] at h; exact .inl ⟨q,Option.some.inj h⟩
 ·rw [if_neg q] at h; exact .inr h
theorem RelG.fresh {B:Base} {hp:Heap} {F:FF} {H:HS} {s:Shared} (R:RelG B hp F H s):F.f s.heap.objs.size = none∧s.heap.objs.size ∉ au F.io∧hp.get? s.heap.objs.size = none:=by
 refine ⟨?_,fun q=>?_,?_⟩
 ·cases q:F.f s.heap.objs.size with
  | none=>rfl
  | some o=>exact absurd (Heap.lt_size (R.fr _ _ q)) (Nat.lt_irrefl _)
 ·obtain ⟨o,e⟩:=R.there q
  exact absurd (Heap.lt_size e) (Nat.lt_irrefl _)
 ·cases q:hp.get? s.heap.objs.size with
  | none=>rfl
  | some o=>exact absurd (Heap.lt_size (R.kp _ _ q)) (Nat.lt_irrefl _)
theorem RelG.put {B:Base} {hp:Heap} {F:FF} {H:HS} {s:Shared} {o:Obj} {tk:Nat} (R:RelG B hp F H s) (hf:o.isFreed = false) :
  bk hp F (F.put s.heap.objs.size o)∧RelG B hp (F.put s.heap.objs.size o) H { s with heap:=s.heap.push o,toks:=tk }:=by
 obtain ⟨f1,f2,f3⟩:=R.fresh
 have k:∀ b o',s.heap.get? b = some o'→(s.heap.push o).get? b = some o':=fun b o' e=>Heap.get?_push_of_some _ e
 have g:FLe F (F.put s.heap.objs.size o):=FF.put_le f1
 refine ⟨⟨g,fun a o' e=>?_⟩,⟨fun a o' e=>?_,fun a ha=>?_,fun a o' e=>g.1 _ _ (R.fK _ _ e),R.hl,fun i p c h1 h2=>((R.hc i p c h1 h2).heap fun b o' zz e=>k b o' e).mono g,R.hn,R.hk,fun b o' e=>k _ _ (R.kp b o' e),R.gd,R.eg,R.ed,R.eo⟩⟩
 ·rcases FF.put_of e with ⟨rfl,rfl⟩ | e
  ·exact .inr f3
  ·exact .inl e
 ·rcases FF.put_of e with ⟨rfl,rfl⟩ | e
  ·exact Heap.get?_push_size _ hf
  ·exact k _ _ (R.fr _ _ e)
 ·show (F.put s.heap.objs.size o).f a = none
  unfold FF.put
  dsimp only
  by_cases q:a = s.heap.objs.size
  ·exact absurd (q ▸ ha) f2
  ·rw [if_neg q]; exact R.fk a ha
noncomputable def FF.more (F:FF) (p:Addr × Addr):FF:=⟨F.f,F.io++[p]⟩
theorem FF.more_le {F:FF} {p:Addr × Addr}:FLe F (F.more p):=⟨fun zz zz e=>e,fun i q e=>by
 unfold FF.more
 rw [List.getElem?_append_left]
 ·exact e
 ·exact (List.getElem?_eq_some_iff.mp e).1⟩
theorem FF.more_grow {hp:Heap} {F:FF} {p:Addr × Addr}:bk hp F (F.more p):=⟨FF.more_le,fun zz zz e=>.inl e⟩
theorem FF.more_last {F:FF} {p:Addr × Addr}:(F.more p).io[F.io.length]? = some p:=by
 unfold FF.more
 rw [List.getElem?_append_right (Nat.le_refl _),Nat.sub_self]; rfl
theorem RelG.new {B:Base} {hp:Heap} {F:FF} {H:HS} {s:Shared} {o:Obj} {tk:Nat} {c:Cell} (R:RelG B hp F H s) (hf:o.isFreed = false)
  (hc:∀ h,h.get? s.heap.objs.size = some o→bo B.w.params F h (s.heap.objs.size,s.heap.objs.size) c) :
  RelG B hp (F.more (s.heap.objs.size,s.heap.objs.size)) (H++[c]) { s with heap:=s.heap.push o,toks:=tk }:=by
 obtain ⟨f1,f2,f3⟩:=R.fresh
 have k:∀ b o',s.heap.get? b = some o'→(s.heap.push o).get? b = some o':=fun b o' e=>Heap.get?_push_of_some _ e
 have hk:au (F.io++[(s.heap.objs.size,s.heap.objs.size)]) = au F.io++[s.heap.objs.size]:=by rw [b8]; simp [au,du]
 refine ⟨fun a o' e=>k _ _ (R.fr a o' e),fun a ha=>?_,R.fK,?_,fun i p c' h1 h2=>?_,?_,fun a ha=>?_,fun b o' e=>k _ _ (R.kp b o' e),R.gd,R.eg,R.ed,R.eo⟩
 ·have ha':a ∈ au (F.io++[(s.heap.objs.size,s.heap.objs.size)]):=ha
  rw [hk] at ha'
  rcases List.mem_append.mp ha' with ha | ha
  ·exact R.fk a ha
  ·rw [List.mem_singleton] at ha; subst ha; exact f1
 ·show (F.io++[_]).length = (H++[c]).length
  rw [List.length_append,List.length_append,R.hl]; rfl
 ·have h1':(F.io++[(s.heap.objs.size,s.heap.objs.size)])[i]? = some p:=h1
  by_cases hi:i < F.io.length
  ·rw [List.getElem?_append_left hi] at h1'
   rw [List.getElem?_append_left (R.hl ▸ hi)] at h2
   exact ((R.hc i p c' h1' h2).heap fun b o' zz e=>k b o' e).mono FF.more_le
  ·have e:i = F.io.length:=by
    have:=(List.getElem?_eq_some_iff.mp h1').1
    rw [List.length_append,List.length_singleton] at this
    lia
   subst e
   rw [List.getElem?_append_right (Nat.le_refl _),Nat.sub_self] at h1'
   rw [R.hl,List.getElem?_append_right (Nat.le_refl _),Nat.sub_self] at h2
   cases h1'; cases h2
   exact (hc _ (Heap.get?_push_size _ hf)).mono FF.more_le
 ·show (au (F.io++[_])).Nodup
  rw [hk]
  refine List.nodup_append.mpr ⟨R.hn,by simp,fun x hx y hy e=>?_⟩
  rw [List.mem_singleton] at hy
  subst hy; subst e; exact f2 hx
 ·have ha':a ∈ au (F.io++[(s.heap.objs.size,s.heap.objs.size)]):=ha
  rw [hk] at ha'
  rcases List.mem_append.mp ha' with ha | ha
  ·exact R.hk a ha
  ·rw [List.mem_singleton] at ha; subst ha; exact ⟨f3,R.size⟩
end
section
set_option bootstrap.genMatcherCode false
section
variable {B:Base} {n:Nat} {sc:List (Str × NameKind)} {loc:Loc} {H:HS}
noncomputable abbrev VR (B:Base):FF→Value→AV→Prop:=AVR B.w.params
noncomputable abbrev VRs (B:Base):FF→List Value→List AV→Prop:=af B.w.params
noncomputable abbrev BR:FF→Bool→Bool→Prop:=fun zz a b=>a = b
noncomputable abbrev UR:FF→Unit→Unit→Prop:=fun zz zz zz=>True
noncomputable def FV {α β:Type} (B:Base) (RV:FF→α→β→Prop) (n:Nat) (sc:List (Str × NameKind)) (loc:Loc) (H:HS) (t:Env→Sem α) (Q:β→HS→Prop):Prop :=
 ∀ A hp F s env,dQ n A→RelF B hp F sc env loc H s →
  wpAny (model B.prog B.w) A (t env) (EF B hp F sc env loc RV Q) NoE s
noncomputable def EV (B:Base) (n:Nat) (sc:List (Str × NameKind)) (loc:Loc) (H:HS) (e:Expr) (Q:AV→HS→Prop):Prop:=FV B (VR B) n sc loc H (eval e) Q
noncomputable def TV (B:Base) (n:Nat) (sc:List (Str × NameKind)) (loc:Loc) (H:HS) (e:Expr) (Q:Bool→HS→Prop):Prop:=FV B BR n sc loc H (fun env=>isTrue e env (eval e env)) Q
noncomputable def EVs (B:Base) (n:Nat) (sc:List (Str × NameKind)) (loc:Loc) (H:HS) (pos:Pos) (es:List Expr) (Q:List AV→HS→Prop):Prop :=
 FV B (VRs B) n sc loc H (fun env=>spliced (backTo pos (starEach es env))) Q
theorem FV.mono {α β:Type} {RV:FF→α→β→Prop} {t:Env→Sem α} {Q Q':β→HS→Prop} (h:FV B RV n sc loc H t Q) (k:∀ b H',Q b H'→Q' b H'):FV B RV n sc loc H t Q' :=
 fun A hp F s env hA R=>wpAny_mono (h A hp F s env hA R) (fun _ _ ⟨F',b,H',g,r,v,q⟩=>⟨F',b,H',g,r,v,k _ _ q⟩) fun zz zz x=>x
theorem FV.then {α β:Type} {RV:FF→α→β→Prop} {A:Around} {hp:Heap} {F:FF} {s:Shared} {env:Env} {t:Env→Sem α} {P:α→Shared→Prop} {Q:β→HS→Prop}
  (hA:dQ n A) (R:RelF B hp F sc env loc H s) (h:FV B RV n sc loc H t Q)
  (k:∀ F' v b H' s',bk hp F F'→RelF B hp F' sc env loc H' s'→RV F' v b→Q b H'→P v s'):wpAny (model B.prog B.w) A (t env) P NoE s :=
 wpAny_mono (h A hp F s env hA R) (fun _ _ ⟨F',b,H',g,r,v,q⟩=>k F' _ b H' _ g r v q) fun zz zz x=>x
theorem GW.at {α β:Type} {RV:FF→α→β→Prop} {A:Around} {hp:Heap} {F F₀:FF} {s:Shared} {env:Env} {vs:List Value} {args:List AV} {t:List Value→Sem α} {Q:β→HS→Prop}
  (hA:dQ n A) (R:RelF B hp F sc env loc H s) (g:bk hp F₀ F) (hv:af B.w.params F vs args) (h:GW B RV n H args t Q) :
  wpAny (model B.prog B.w) A (t vs) (EF B hp F₀ sc env loc RV Q) NoE s :=
 wpAny_mono (WD h hA R hv) (fun _ _ ⟨F',b,H',g',r,v,q,_⟩=>⟨F',b,H',g.trans g',r,v,q⟩) fun zz zz x=>x
theorem GW.then {α β:Type} {RV:FF→α→β→Prop} {A:Around} {hp:Heap} {F:FF} {s:Shared} {env:Env} {vs:List Value} {args:List AV} {t:List Value→Sem α} {Q:β→HS→Prop} {P:α→Shared→Prop}
  (hA:dQ n A) (R:RelF B hp F sc env loc H s) (hv:af B.w.params F vs args) (h:GW B RV n H args t Q)
  (k:∀ F' v b H' s',bk hp F F'→RelF B hp F' sc env loc H' s'→RV F' v b→Q b H'→P v s'):wpAny (model B.prog B.w) A (t vs) P NoE s :=
 wpAny_mono (WD h hA R hv) (fun _ _ ⟨F',b,H',g',r,v,q,_⟩=>k F' _ b H' _ g' r v q) fun zz zz x=>x
theorem FV.at {α β:Type} {RV:FF→α→β→Prop} {A:Around} {hp:Heap} {F F₀:FF} {s:Shared} {env:Env} {t:Env→Sem α} {Q:β→HS→Prop}
  (hA:dQ n A) (R:RelF B hp F sc env loc H s) (g:bk hp F₀ F) (h:FV B RV n sc loc H t Q) :
  wpAny (model B.prog B.w) A (t env) (EF B hp F₀ sc env loc RV Q) NoE s :=
 wpAny_mono (h A hp F s env hA R) (fun _ _ ⟨F',b,H',g',r,v,q⟩=>⟨F',b,H',g.trans g',r,v,q⟩) fun zz zz x=>x
noncomputable abbrev a0 (vs:List Value):Value:=vs.headD .none
noncomputable abbrev a1 (vs:List Value):Value:=vs.tail.headD .none
noncomputable abbrev a2 (vs:List Value):Value:=vs.tail.tail.headD .none
theorem two {F:FF} {v w:Value} {a b:AV} {P:Params} (h:AVR P F v a) (k:AVR P F w b):af P F [v,w] [a,b]:=.cons h (.cons k .nil)
theorem one {F:FF} {v:Value} {a:AV} {P:Params} (h:AVR P F v a):af P F [v] [a]:=.cons h .nil
theorem WA {F:FF} {v w u:Value} {a b c:AV} {P:Params} (h:AVR P F v a) (k:AVR P F w b) (l:AVR P F u c):af P F [v,w,u] [a,b,c]:=.cons h (.cons k (.cons l .nil))
noncomputable abbrev gD (B:Base) (n:Nat) (op:Operator) (a b:AV) (H:HS) (Q:AV→HS→Prop):Prop:=GW B (VR B) n H [a,b] (fun vs=>binaryOp op (a0 vs) (a1 vs)) Q
noncomputable abbrev Fi (B:Base) (n:Nat) (op:UnaryOp) (a:AV) (H:HS) (Q:AV→HS→Prop):Prop:=GW B (VR B) n H [a] (fun vs=>unaryOp op (a0 vs)) Q
noncomputable abbrev CMP (B:Base) (n:Nat) (op:CmpOp) (a b:AV) (H:HS) (Q:AV→HS→Prop):Prop:=GW B (VR B) n H [a,b] (fun vs=>compareOp op (a0 vs) (a1 vs)) Q
noncomputable abbrev gI (B:Base) (n:Nat) (a:AV) (H:HS) (Q:Bool→HS→Prop):Prop:=GW B BR n H [a] (fun vs=>truthy (a0 vs)) Q
noncomputable abbrev fN (B:Base) (n:Nat) (a:AV) (x:Str) (H:HS) (Q:AV→HS→Prop):Prop:=GW B (VR B) n H [a] (fun vs=>getAttr (a0 vs) x true) Q
noncomputable abbrev jS (B:Base) (n:Nat) (value slice:Expr) (a b:AV) (H:HS) (Q:AV→HS→Prop):Prop:=GW B (VR B) n H [a,b] (fun vs=>subscriptTail value slice (a0 vs) (a1 vs)) Q
noncomputable abbrev ac (B:Base) (n:Nat) (f:Value) (args:List AV) (H:HS) (Q:AV→HS→Prop):Prop:=GW B (VR B) n H args (fun vs=>call f vs) Q
theorem AZ {l r:Expr} {op:Operator} {pos:Pos} {Q:AV→HS→Prop} (h:EV B n sc loc H l fun a H1=>EV B n sc loc H1 r fun b H2=>gD B n op a b H2 Q) :
  EV B n sc loc H (.BinOp l op r pos) Q:=fun A hp F s env hA R=>by
 refine wpAny_BinOp (FV.then hA R h fun F1 va a H1 s1 g1 R1 ha q1=>FV.then hA R1 q1 fun F2 vb b H2 s2 g2 R2 hb q2=>?_)
 exact GW.at hA R2 (g1.trans g2) (two (ha.mono g2.1) hb) q2
theorem xj {x:Expr} {op:UnaryOp} {pos:Pos} {Q:AV→HS→Prop} (h:EV B n sc loc H x fun a H1=>Fi B n op a H1 Q):EV B n sc loc H (.UnaryOp op x pos) Q :=
 fun A hp F s env hA R=>wpAny_UnaryOp (FV.then hA R h fun F1 va a H1 s1 g1 R1 ha q1=>GW.at hA R1 g1 (one ha) q1)
theorem BI {t b o:Expr} {pos:Pos} {Q:AV→HS→Prop} (h:TV B n sc loc H t fun c H1=>if c = true then EV B n sc loc H1 b Q else EV B n sc loc H1 o Q):EV B n sc loc H (.IfExp t b o pos) Q :=
 fun A hp F s env hA R=>wpAny_IfExp (FV.then hA R h fun F1 va a H1 s1 g1 R1 ha q1=>by
  have ha':va = a:=ha
  subst ha'
  cases va with
  | true=>rw [if_pos rfl] at q1; exact FV.at hA R1 g1 q1
  | false=>rw [if_neg Bool.false_ne_true] at q1; exact FV.at hA R1 g1 q1)
theorem xu {l r:Expr} {op:CmpOp} {pos:Pos} {Q:AV→HS→Prop} (h:EV B n sc loc H l fun a H1=>EV B n sc loc H1 r fun b H2=>CMP B n op a b H2 Q)
  (hm:behindInMarks op r = false:=by with_unfolding_all rfl):EV B n sc loc H (.Compare l [op] [r] pos) Q:=fun A hp F s env hA R=>by
 refine wpAny_Compare1 (FV.then hA R h fun F1 va a H1 s1 g1 R1 ha q1=>FV.then hA R1 q1 fun F2 vb b H2 s2 g2 R2 hb q2=>?_) hm
 exact GW.at hA R2 (g1.trans g2) (two (ha.mono g2.1) hb) q2
theorem wQ {op:BoolOp} {e:Expr} {pos:Pos} {Q:AV→HS→Prop} (h:EV B n sc loc H e Q):EV B n sc loc H (.BoolOp op [e] pos) Q:=h
theorem ME {e₁ e₂:Expr} {rest:List Expr} {pos:Pos} {Q:AV→HS→Prop}
  (h:EV B n sc loc H e₁ fun a H1=>gI B n a H1 fun c H2=>if c = true then EV B n sc loc H2 (.BoolOp .And (e₂ :: rest) pos) Q else Q a H2):EV B n sc loc H (.BoolOp .And (e₁ :: e₂ :: rest) pos) Q :=
 fun A hp F s env hA R=>BoolOp_and (FV.then hA R h fun F1 va a H1 s1 g1 R1 ha q1=>GW.then hA R1 (one ha) q1 fun F2 c c' H2 s2 g2 R2 e q2=>by
  have e':c = c':=e
  subst e'
  cases c with
  | true=>rw [if_pos rfl] at q2 ⊢; exact FV.at hA R2 (g1.trans g2) q2
  | false=>rw [if_neg Bool.false_ne_true] at q2 ⊢; exact ⟨F2,a,H2,g1.trans g2,R2,ha.mono g2.1,q2⟩)
theorem Td {e₁ e₂:Expr} {rest:List Expr} {pos:Pos} {Q:AV→HS→Prop}
  (h:EV B n sc loc H e₁ fun a H1=>gI B n a H1 fun c H2=>if c = true then Q a H2 else EV B n sc loc H2 (.BoolOp .Or (e₂ :: rest) pos) Q):EV B n sc loc H (.BoolOp .Or (e₁ :: e₂ :: rest) pos) Q :=
 fun A hp F s env hA R=>BoolOp_or (FV.then hA R h fun F1 va a H1 s1 g1 R1 ha q1=>GW.then hA R1 (one ha) q1 fun F2 c c' H2 s2 g2 R2 e q2=>by
  have e':c = c':=e
  subst e'
  cases c with
  | false=>rw [if_neg Bool.false_ne_true] at q2 ⊢; exact FV.at hA R2 (g1.trans g2) q2
  | true=>rw [if_pos rfl] at q2 ⊢; exact ⟨F2,a,H2,g1.trans g2,R2,ha.mono g2.1,q2⟩)
theorem t0 {value:Expr} {attr:Str} {pos:Pos} {Q:AV→HS→Prop} (h:EV B n sc loc H value fun a H1=>fN B n a attr H1 Q)
  (he:autoParam (∀ env whole,attributeBase value attr env whole = whole) bD):EV B n sc loc H (.Attribute value attr pos) Q:=fun A hp F s env hA R=>by
 have e1:eval (.Attribute value attr pos) env = (do
   let o ← attributeBase value attr env (eval value env)
   standAt pos.atName
   let r ← holding [o] (getAttr o attr true)
   letTemporaryGo value o r
   pure r):=rfl
 rw [e1,he]
 refine wpAny_bind (FV.then hA R h fun F1 va a H1 s1 g1 R1 ha q1=>wpAny_bind (wpAny_standAt (wpAny_bind (wpAny_holding ?_))))
 exact wpAny_mono (GW.at hA R1 g1 (one ha) q1) (fun v s' hx=>wpAny_bind (wpAny_letTemporaryGo (wpAny_pure hx))) fun zz zz x=>x
theorem sI {value slice:Expr} {pos:Pos} {Q:AV→HS→Prop} (h:EV B n sc loc H value fun a H1=>EV B n sc loc H1 slice fun b H2=>jS B n value slice a b H2 Q) :
  EV B n sc loc H (.Subscript value slice pos) Q:=fun A hp F s env hA R =>
 Subscript_ (FV.then hA R h fun F1 va a H1 s1 g1 R1 ha q1=>FV.then hA R1 q1 fun F2 vb b H2 s2 g2 R2 hb q2=>GW.at hA R2 (g1.trans g2) (two (ha.mono g2.1) hb) q2)
noncomputable def yy (B:Base) (n:Nat) (value slice:Expr) (o l u st:AV) (H:HS) (Q:AV→HS→Prop):Prop :=
 ∀ A hp F s vo vl vu vt,dQ n A→RelG B hp F H s→VR B F vo o→VR B F vl l→VR B F vu u→VR B F vt st →
  wpAny (model B.prog B.w) A (newFields "slice" [vl,vu,vt]) (fun i s1=>wpAny (model B.prog B.w) A (subscriptTail value slice vo i)
   (EG B hp F (VR B) Q) NoE s1) NoE s
theorem D2 {value:Expr} {lo up st:Option Expr} {sp pos:Pos} {Q:AV→HS→Prop}
  (h:EV B n sc loc H value fun o H1=>FV B (VR B) n sc loc H1 (fun env=>valueOrNone (evalOpt lo env)) fun l H2=>FV B (VR B) n sc loc H2 (fun env=>valueOrNone (evalOpt up env)) fun u H3 =>
   FV B (VR B) n sc loc H3 (fun env=>valueOrNone (evalOpt st env)) fun t H4=>yy B n value (.Slice lo up st sp) o l u t H4 Q) :
  EV B n sc loc H (.Subscript value (.Slice lo up st sp) pos) Q:=fun A hp F s env hA R=>by
 refine Subscript_ (FV.then hA R h fun F1 vo o H1 s1 g1 R1 ho q1=>?_)
 show wpAny _ _ (do
  let l ← valueOrNone (evalOpt lo env)
  let u ← holding [l] (valueOrNone (evalOpt up env))
  let s ← holding [l,u] (valueOrNone (evalOpt st env))
  newFields "slice" [l,u,s]) _ _ _
 refine wpAny_bind (FV.then (t:=fun env=>valueOrNone (evalOpt lo env)) hA R1 q1 fun F2 vl l H2 s2 g2 R2 hl q2=>wpAny_bind (wpAny_holding ?_))
 refine FV.then (t:=fun env=>valueOrNone (evalOpt up env)) hA R2 q2 fun F3 vu u H3 s3 g3 R3 hu q3=>wpAny_bind (wpAny_holding ?_)
 refine FV.then (t:=fun env=>valueOrNone (evalOpt st env)) hA R3 q3 fun F4 vt t H4 s4 g4 R4 ht q4=>?_
 obtain ⟨hp2,R5,_,_,back⟩:=R4.under bw.nil
 refine wpAny_mono (q4 A _ F4 s4 vo vl vu vt hA R5 (((ho.mono g2.1).mono g3.1).mono g4.1) ((hl.mono g3.1).mono g4.1) (hu.mono g4.1) ht) (fun i s5 h5=>?_) fun zz zz x=>x
 refine wpAny_mono h5 (fun v s' hr=>?_) fun zz zz x=>x
 obtain ⟨F',b,H',gr,R',hb,q⟩:=hr
 obtain ⟨g,r⟩:=back F' H' s' gr R'
 exact ⟨F',b,H',(((g1.trans g2).trans g3).trans g4).trans g,r,hb,q⟩
theorem Fg {Q:AV→HS→Prop} (h:Q .none H):FV B (VR B) n sc loc H (fun env=>valueOrNone (evalOpt none env)) Q :=
 fun A hp F s env hA R=>wpAny_pure ⟨F,.none,H,.refl,R,by simp only [VR,AVR],h⟩
theorem Fd {e:Expr} {Q:AV→HS→Prop} (h:EV B n sc loc H e Q):FV B (VR B) n sc loc H (fun env=>valueOrNone (evalOpt (some e) env)) Q:=h
theorem Nc {x:Expr} {pos:Pos} {Q:Bool→HS→Prop} (h:TV B n sc loc H x fun c H1=>Q (!c) H1):TV B n sc loc H (.UnaryOp .Not x pos) Q:=fun A hp F s env hA R =>
 isTrue_not (FV.then hA R h fun F1 c c' H1 s1 g1 R1 e q1=>⟨F1,!c',H1,g1,R1,by have e':c = c':=e; rw [e'],q1⟩)
theorem xb {l r:Expr} {op:CmpOp} {pos:Pos} {Q:Bool→HS→Prop} (h:EV B n sc loc H l fun a H1=>EV B n sc loc H1 r fun b H2=>CMP B n op a b H2 fun c H3=>gI B n c H3 Q)
  (hm:behindInMarks op r = false:=by with_unfolding_all rfl):TV B n sc loc H (.Compare l [op] [r] pos) Q:=fun A hp F s env hA R=>by
 refine wpAny_isTrue_Compare1 (FV.then hA R h fun F1 va a H1 s1 g1 R1 ha q1=>FV.then hA R1 q1 fun F2 vb b H2 s2 g2 R2 hb q2=>?_) hm
 exact GW.then hA R2 (two (ha.mono g2.1) hb) q2 fun F3 vc c H3 s3 g3 R3 hc q3=>GW.at hA R3 ((g1.trans g2).trans g3) (one hc) q3
theorem wt {pos:Pos} {Q:Bool→HS→Prop} (h:Q true H):TV B n sc loc H (.BoolOp .And [] pos) Q:=fun A hp F s env hA R=>isTrue_and_nil ⟨F,true,H,.refl,R,rfl,h⟩
theorem z7 {pos:Pos} {Q:Bool→HS→Prop} (h:Q false H):TV B n sc loc H (.BoolOp .Or [] pos) Q:=fun A hp F s env hA R=>isTrue_or_nil ⟨F,false,H,.refl,R,rfl,h⟩
theorem RB {x:Expr} {rest:List Expr} {pos:Pos} {Q:Bool→HS→Prop} (h:TV B n sc loc H x fun c H1=>if c = true then TV B n sc loc H1 (.BoolOp .And rest pos) Q else Q false H1) :
  TV B n sc loc H (.BoolOp .And (x :: rest) pos) Q:=fun A hp F s env hA R=>isTrue_and (FV.then hA R h fun F1 c c' H1 s1 g1 R1 e q1=>by
  have e':c = c':=e
  subst e'
  cases c with
  | true=>rw [if_pos rfl] at q1 ⊢; exact FV.at hA R1 g1 q1
  | false=>rw [if_neg Bool.false_ne_true] at q1 ⊢; exact ⟨F1,false,H1,g1,R1,rfl,q1⟩)
theorem UD {x:Expr} {rest:List Expr} {pos:Pos} {Q:Bool→HS→Prop} (h:TV B n sc loc H x fun c H1=>if c = true then Q true H1 else TV B n sc loc H1 (.BoolOp .Or rest pos) Q) :
  TV B n sc loc H (.BoolOp .Or (x :: rest) pos) Q:=fun A hp F s env hA R=>isTrue_or (FV.then hA R h fun F1 c c' H1 s1 g1 R1 e q1=>by
  have e':c = c':=e
  subst e'
  cases c with
  | false=>rw [if_neg Bool.false_ne_true] at q1 ⊢; exact FV.at hA R1 g1 q1
  | true=>rw [if_pos rfl] at q1 ⊢; exact ⟨F1,true,H1,g1,R1,rfl,q1⟩)
theorem CO {e:Expr} {Q:Bool→HS→Prop} (h:EV B n sc loc H e fun a H1=>gI B n a H1 Q) (he:autoParam (∀ env whole,isTrue e env whole = (do let v ← whole; standAt e.pos; holding [v] (truthy v))) bD) :
  TV B n sc loc H e Q:=fun A hp F s env hA R=>isTrue_plain (FV.then hA R h fun F1 va a H1 s1 g1 R1 ha q1=>GW.at hA R1 g1 (one ha) q1) (he _ _)
theorem aU {pos:Pos} {Q:List AV→HS→Prop} (h:Q [] H):EVs B n sc loc H pos [] Q:=fun A hp F s env hA R=>spliced_nil ⟨F,[],H,.refl,R,.nil,h⟩
theorem vv {e:Expr} {rest:List Expr} {pos:Pos} {Q:List AV→HS→Prop} (h:EV B n sc loc H e fun a H1=>EVs B n sc loc H1 pos rest fun as H2=>Q (a :: as) H2)
  (he:autoParam (∀ env,starEach (e :: rest) env = (false,eval e env) :: starEach rest env) aW):EVs B n sc loc H pos (e :: rest) Q:=fun A hp F s env hA R=>by
 dsimp only
 rw [he]
 refine spliced_cons (FV.then hA R h fun F1 va a H1 s1 g1 R1 ha q1=>FV.then hA R1 q1 fun F2 vas as H2 s2 g2 R2 has q2=>?_)
 exact ⟨F2,a :: as,H2,g1.trans g2,R2,af.cons (ha.mono g2.1) has,q2⟩
theorem Qf {i:Int} {k:Nat} {pos:Pos} {Q:AV→HS→Prop} (h:Q (.int i) H):EV B n sc loc H (.Constant (.int i) k pos) Q :=
 fun A hp F s env hA R=>wpAny_Constant_int ⟨F,.int i,H,.refl,R.toks,by simp only [VR,AVR]; exact ⟨_,rfl⟩,h⟩
theorem Ro {x:Str} {k:Nat} {pos:Pos} {Q:AV→HS→Prop} (h:Q (.str x.cps.toList) H):EV B n sc loc H (.Constant (.str x) k pos) Q :=
 fun A hp F s env hA R=>wpAny_mkText ⟨F,.str x.cps.toList,H,.refl,R.toks,by simp only [VR,AVR]; exact ⟨s.toks,by simp⟩,h⟩
theorem Fo {k:Nat} {pos:Pos} {Q:AV→HS→Prop} (h:Q .none H):EV B n sc loc H (.Constant .none k pos) Q :=
 fun A hp F s env hA R=>wpAny_pure ⟨F,.none,H,.refl,R,by simp only [VR,AVR],h⟩
theorem Ga {b:Bool} {k:Nat} {pos:Pos} {Q:AV→HS→Prop} (h:Q (.bool b) H):EV B n sc loc H (.Constant (.bool b) k pos) Q :=
 fun A hp F s env hA R=>wpAny_pure ⟨F,.bool b,H,.refl,R,by simp only [VR,AVR],h⟩
theorem DE {x:Str} {pos:Pos} {a:AV} {Q:AV→HS→Prop} (hm:(x,some a) ∈ loc) (h:Q a H):EV B n sc loc H (.Name x pos) Q:=fun A hp F s env hA R=>by
 have hx:x ∈ loc.map (fun zz=>zz.1):=List.mem_map.mpr ⟨_,hm,rfl⟩
 obtain ⟨m,hns,hl⟩:=R.ns
 have fin:∀ v,AVR B.w.params F v a→EF B hp F sc env loc (VR B) Q v s:=fun v hv=>⟨F,a,H,.refl,R,hv,h⟩
 rcases hl x a hm with ⟨k,v,hv,hr⟩ | ⟨k | k,c,o,v,h1,h2,h3,h4,h5,h6⟩
 ·exact wpAny_Name (wpAny_loadName_local R.fk k hns hv (fin v hr)) (R.db x hx)
 ·exact wpAny_Name (wpAny_loadName_cell R.fk k h1 ⟨o,h2,h3⟩ (fin v h4)) (R.db x hx)
 ·exact wpAny_Name (wpAny_loadName_free R.fk k.1 h1 ⟨o,h2,h3⟩ (fin v h4) k.2) (R.db x hx)
noncomputable def GN (B:Base) (x:Str) (v:Value):Prop:=(x == ("__debug__":Str)) = false∧(nsIn B.K mainGlobals x = some (some v) ∨ (nsIn B.K mainGlobals x = some none∧bootBuiltins x = some v∧x ≠ "__name__"))
noncomputable def GA (B:Base) (x:Str) (a:AV):Prop:=∃ v,GN B x v∧∀ F:FF,(∀ b o,B.K.lookup b = some o→F.f b = some o)→AVR B.w.params F v a
theorem qI {x:Str} {pos:Pos} {a:AV} {Q:AV→HS→Prop} (hm:(x,NameKind.globalImplicit) ∈ sc) (hg:GA B x a) (h:Q a H):EV B n sc loc H (.Name x pos) Q:=fun A hp F s env hA R=>by
 obtain ⟨v,⟨hd,hv⟩,hr⟩:=hg
 have G:=R.g.good
 have fin:EF B hp F sc env loc (VR B) Q v s:=⟨F,a,H,.refl,R,hr F R.g.fK,h⟩
 have hk:=R.gk x _ hm (.inl rfl)
 rcases hv with e | ⟨e1,e2,e3⟩
 ·exact Name_function_global R.fk hk (loadGlobal_global (env:=env) (by rw [R.eg]; exact G.T.g) (mg_of G.X G.T.g e) fin) hd
 ·exact Name_function_global R.fk hk (loadGlobal_builtin (env:=env) (by rw [R.eg]; exact G.T.g) (mg_none_of G.X G.T.g e1) (by rw [R.eb]; exact G.T.b) ((G.T.builtins x e3).trans e2) fin) hd
end
end
section
set_option bootstrap.genMatcherCode false
section
variable {B:Base} {n:Nat} {sc:List (Str × NameKind)} {loc:Loc} {H:HS}
noncomputable def bK (B:Base) (f:Value):Prop:=∀ h,B.K.In h→∃ k,(k = Keeper.frame ∨ k = Keeper.machine ∨ k = Keeper.boundFrame)∧Looks (model B.prog B.w) h (keeperOf f) k
theorem iC {id:String}:bK B (.builtin id):=fun h zz=>⟨.machine,.inr (.inl rfl),Looks.of_pure rfl⟩
theorem qQ {id:String}:bK B (.type id):=fun h zz=>⟨.machine,.inr (.inl rfl),Looks.of_pure rfl⟩
theorem PS {f:Value} (h:keepIn B.K f = true):bK B f:=fun hh X=>keeps_K h hh X
theorem qX (pos:Pos) (env:Env):∀ es:List Expr,(backTo pos (es.map fun e=>(false,eval e env))).any (fun zz=>zz.1) = false
 | []=>rfl
 | e :: r=>by
  have:=qX pos env r
  simp only [backTo,List.map_cons,List.any_cons,Bool.false_or] at this ⊢
  exact this
theorem iU {pos:Pos} {f:Value} {first:List Value} {A:Around} {s:Shared} {env:Env} {Q:Value→Shared→Prop} (hk:bK B f) (hX:B.K.In s.heap)
  (h:wpAny (model B.prog B.w) A (call f (first++[])) Q NoE s):wpAny (model B.prog B.w) A (callWith pos f first (backTo pos (starEach [] env)) []) Q NoE s :=
 callWith_of (P:=fun h=>B.K.In h) rfl hk (evalArgs_nil3 ⟨hX,h⟩)
theorem bW {pos:Pos} {f:Value} {first:List Value} {e:Expr} {args:List Expr} {A:Around} {s:Shared} {env:Env} {Q:Value→Shared→Prop} (hk:bK B f)
  (hs:starEach (e :: args) env = (e :: args).map fun e=>(false,eval e env))
  (h:wpAny (model B.prog B.w) A (spliced (backTo pos (starEach (e :: args) env))) (fun vs s₁=>B.K.In s₁.heap∧wpAny (model B.prog B.w) A (call f (first++vs)) Q NoE s₁) NoE s) :
  wpAny (model B.prog B.w) A (callWith pos f first (backTo pos (starEach (e :: args) env)) []) Q NoE s:=by
 have hp:=qX pos env (e :: args)
 refine callWith_of (P:=fun h=>B.K.In h) (by rw [hs,hp]; rfl) hk ?_
 rw [hs] at h ⊢
 exact evalArgs_plain h
noncomputable def Rl (B:Base) (n:Nat) (f:AV) (args:List AV) (H:HS) (Q:AV→HS→Prop):Prop:=∃ g,f = .val g∧bK B g∧ac B n g args H Q
theorem D8 {func:Expr} {pos:Pos} {Q:AV→HS→Prop} (h:EV B n sc loc H func fun f H1=>Rl B n f [] H1 Q)
  (he:autoParam (∀ env,eval (.Call func [] [] pos) env = (do callWith pos (← eval func env) [] (backTo pos (starEach [] env)) (backToKw pos (keywordEach [] env)))) aW):EV B n sc loc H (.Call func [] [] pos) Q :=
 fun A hp F s env hA R=>Call_ (FV.then hA R h fun F1 vf f H1 s1 g1 R1 hf q1=>by
  obtain ⟨g,rfl,hk,q⟩:=q1
  have hf':vf = g:=by simpa only [VR,AVR] using hf
  subst hf'
  exact iU hk R1.g.good.X (GW.at hA R1 g1 .nil q)) (he env)
theorem EU {func e:Expr} {args:List Expr} {pos:Pos} {Q:AV→HS→Prop} (h:EV B n sc loc H func fun f H1=>∃ g,f = .val g∧bK B g∧EVs B n sc loc H1 pos (e :: args) fun as H2=>ac B n g as H2 Q)
  (he:autoParam (∀ env,eval (.Call func (e :: args) [] pos) env = (do callWith pos (← eval func env) [] (backTo pos (starEach (e :: args) env)) (backToKw pos (keywordEach [] env)))) aW)
  (hs:autoParam (∀ env,starEach (e :: args) env = (e :: args).map fun e=>(false,eval e env)) aW):EV B n sc loc H (.Call func (e :: args) [] pos) Q :=
 fun A hp F s env hA R=>Call_ (FV.then hA R h fun F1 vf f H1 s1 g1 R1 hf q1=>by
  obtain ⟨g,rfl,hk,q⟩:=q1
  have hf':vf = g:=by simpa only [VR,AVR] using hf
  subst hf'
  exact bW hk (hs env) (FV.then hA R1 q fun F2 vs as H2 s2 g2 R2 has q2=>⟨R2.g.good.X,GW.at hA R2 (g1.trans g2) has q2⟩)) (he env)
noncomputable abbrev MR (B:Base):FF→Value × List Value→Value × List AV→Prop:=fun F a b=>a.1 = b.1∧af B.w.params F a.2 b.2
noncomputable def ee (B:Base) (n:Nat) (o:AV) (x:Str) (H:HS) (Q:Value × List AV→HS→Prop):Prop:=∀ pl:Sem Bool,GW B (MR B) n H [o] (fun vs=>getMethod (a0 vs) x pl) Q
theorem xX {o:Expr} {name:Str} {apos pos:Pos} {Q:AV→HS→Prop} (h:EV B n sc loc H o fun ov H1=>ee B n ov name H1 fun fx H2=>bK B fx.1∧ac B n fx.1 fx.2 H2 Q)
  (he:∀ env,∃ pl,eval (.Call (.Attribute o name apos) [] [] pos) env = (do
   let ov ← eval o env
   standAt apos.atName
   let (f,first) ← holding [ov] (getMethod ov name pl)
   callWith pos f first (backTo pos (starEach [] env)) []):=by intro _; exact ⟨_,rfl⟩):EV B n sc loc H (.Call (.Attribute o name apos) [] [] pos) Q :=
 fun A hp F s env hA R=>by
  obtain ⟨pl,he⟩:=he env
  refine MethodCall_ (pl:=pl) (FV.then hA R h fun F1 vo ov H1 s1 g1 R1 ho q1=>GW.then hA R1 (one ho) (q1 pl) fun F2 fx fy H2 s2 g2 R2 hf q2=>?_) he
  obtain ⟨hk,q⟩:=q2
  obtain ⟨e1,e2⟩:=hf
  rw [e1]
  exact iU hk R2.g.good.X (by rw [List.append_nil]; exact GW.at hA R2 (g1.trans g2) e2 q)
theorem zU {o e:Expr} {name:Str} {args:List Expr} {apos pos:Pos} {Q:AV→HS→Prop}
  (h:EV B n sc loc H o fun ov H1=>ee B n ov name H1 fun fx H2=>bK B fx.1∧EVs B n sc loc H2 pos (e :: args) fun as H3=>ac B n fx.1 (fx.2++as) H3 Q)
  (he:∀ env,∃ pl,eval (.Call (.Attribute o name apos) (e :: args) [] pos) env = (do
   let ov ← eval o env
   standAt apos.atName
   let (f,first) ← holding [ov] (getMethod ov name pl)
   callWith pos f first (backTo pos (starEach (e :: args) env)) []):=by intro _; exact ⟨_,rfl⟩)
  (hs:autoParam (∀ env,starEach (e :: args) env = (e :: args).map fun e=>(false,eval e env)) aW):EV B n sc loc H (.Call (.Attribute o name apos) (e :: args) [] pos) Q :=
 fun A hp F s env hA R=>by
  obtain ⟨pl,he⟩:=he env
  refine MethodCall_ (pl:=pl) (FV.then hA R h fun F1 vo ov H1 s1 g1 R1 ho q1=>GW.then hA R1 (one ho) (q1 pl) fun F2 fx fy H2 s2 g2 R2 hf q2=>?_) he
  obtain ⟨hk,q⟩:=q2
  obtain ⟨e1,e2⟩:=hf
  rw [e1]
  exact bW hk (hs env) (FV.then hA R2 q fun F3 vs as H3 s3 g3 R3 has q3=>⟨R3.g.good.X,GW.at hA R3 ((g1.trans g2).trans g3) ((af.mono g3.1 e2).app has) q3⟩)
theorem uZ {hp:Heap} {F:FF} {env:Env} {s:Shared} {o:Obj} {tk:Nat} (R:RelF B hp F sc env loc H s) (hf:o.isFreed = false) :
  bk hp F (F.put s.heap.objs.size o)∧RelF B hp (F.put s.heap.objs.size o) sc env loc H { s with heap:=s.heap.push o,toks:=tk }:=by
 obtain ⟨hp2,R2,_,_,back⟩:=R.under bw.nil
 obtain ⟨g,r⟩:=R2.put (tk:=tk) hf
 exact back _ _ _ g r
theorem mX {hp:Heap} {F:FF} {env:Env} {s:Shared} {o:Obj} {tk:Nat} {c:Cell} (R:RelF B hp F sc env loc H s) (hf:o.isFreed = false)
  (hc:∀ h,h.get? s.heap.objs.size = some o→bo B.w.params F h (s.heap.objs.size,s.heap.objs.size) c) :
  RelF B hp (F.more (s.heap.objs.size,s.heap.objs.size)) sc env loc (H++[c]) { s with heap:=s.heap.push o,toks:=tk } :=
 let ⟨_,R2,_,_,back⟩:=R.under bw.nil
 (back _ _ _ FF.more_grow (R2.new (tk:=tk) hf hc)).2
theorem dK {P:Params} {F:FF} {a d:Addr}:AVR P (F.more (a,d)) (.ref a) (.cell F.io.length):=by
 simp only [AVR]; exact ⟨a,d,FF.more_last,rfl⟩
theorem ay {k:Nat} (h:k≤100000):k≤sizeLine:=by rw [sizeLine_eq]; lia
theorem uh {elts:List Expr} {k:Nat} {pos:Pos} {Q:AV→HS→Prop} (h:EVs B n sc loc H pos elts fun as H1=>as.length≤100000∧Q (.tup as) H1) :
  EV B n sc loc H (.Tuple elts k pos) Q:=fun A hp F s env hA R =>
 Tuple_ (FV.then hA R h fun F1 vs as H1 s1 g1 R1 has q1=>by
  obtain ⟨hl,q⟩:=q1
  obtain ⟨g2,R2⟩:=uZ (tk:=s1.toks) (o:={ cls:=.type "tuple",data:=.seq vs.toArray }) R1 rfl
  refine wpAny_newObj_type ⟨_,_,H1,g1.trans g2,R2,?_,q⟩ (by show vs.toArray.size≤sizeLine; rw [List.size_toArray,af.len has]; exact ay hl)
  simp only [VR,AVR]
  exact ⟨_,_,0,vs,rfl,FF.put_self,rfl,rfl,af.mono g2.1 has⟩)
theorem aR {elts:List Expr} {pos:Pos} {Q:AV→HS→Prop} (h:EVs B n sc loc H pos elts fun as H1=>as.length≤100000∧Q (.cell H1.length) (H1++[.list as])) :
  EV B n sc loc H (.List elts pos) Q:=fun A hp F s env hA R =>
 List_ (FV.then hA R h fun F1 vs as H1 s1 g1 R1 has q1=>by
  obtain ⟨hl,q⟩:=q1
  have R2:=mX (tk:=s1.toks) (o:={ cls:=.type "list",data:=.seq vs.toArray }) (c:=.list as) R1 rfl (fun h e=>⟨rfl,_,0,vs,e,rfl,rfl,has,rfl,rfl⟩)
  refine wpAny_newObj_type ⟨_,_,_,g1.trans FF.more_grow,R2,?_,q⟩ (by show vs.toArray.size≤sizeLine; rw [List.size_toArray,af.len has]; exact ay hl)
  rw [← R1.g.hl]
  exact dK)
end
inductive AF where
 | next | brk | cont
 | ret (a:AV)
noncomputable def FlR (B:Base) (F:FF):Flow→AF→Prop
 | .next,.next=>True
 | .brk,.brk=>True
 | .cont,.cont=>True
 | .ret v,.ret a=>AVR B.w.params F v a
 | _,_=>False
@[elab_as_elim] theorem FlR.e {B:Base} {F:FF} {p:Flow→AF→Prop} {f:Flow} {f':AF} (h:FlR B F f f') (h1:p .next .next) (h2:p .brk .brk) (h3:p .cont .cont) (h4:∀ v a,AVR B.w.params F v a→p (.ret v) (.ret a)):p f f':=by
 cases f <;> cases f' <;> first | exact h.elim | exact h1 | exact h2 | exact h3 | exact h4 _ _ h
inductive ES (B:Base) (hp:Heap) (F:FF) (sc:List (Str × NameKind)) (env:Env) (Q:AF→Loc→HS→Prop) (f:Flow) (s':Shared):Prop
 | mk (F':FF) (f':AF) (loc':Loc) (H':HS) (g:bk hp F F') (r:RelF B hp F' sc env loc' H' s') (a:FlR B F' f f') (q:Q f' loc' H')
noncomputable def SV (B:Base) (n:Nat) (sc:List (Str × NameKind)) (loc:Loc) (H:HS) (t:Env→Sem Flow) (Q:AF→Loc→HS→Prop):Prop :=
 ∀ A hp F s env,dQ n A→RelF B hp F sc env loc H s →
  wpAny (model B.prog B.w) A (t env) (ES B hp F sc env Q) NoE s
noncomputable def XS (B:Base) (n:Nat) (sc:List (Str × NameKind)) (loc:Loc) (H:HS) (ss:List Stmt) (Q:AF→Loc→HS→Prop):Prop:=SV B n sc loc H (execs ss) Q
noncomputable def XO (B:Base) (n:Nat) (sc:List (Str × NameKind)) (loc:Loc) (H:HS) (st:Stmt) (Q:AF→Loc→HS→Prop):Prop:=SV B n sc loc H (exec st) Q
section
variable {B:Base} {n:Nat} {sc:List (Str × NameKind)} {loc:Loc} {H:HS}
theorem SV.then {A:Around} {hp:Heap} {F:FF} {s:Shared} {env:Env} {t:Env→Sem Flow} {P:Flow→Shared→Prop} {Q:AF→Loc→HS→Prop}
  (hA:dQ n A) (R:RelF B hp F sc env loc H s) (h:SV B n sc loc H t Q)
  (k:∀ F' v b loc' H' s',bk hp F F'→RelF B hp F' sc env loc' H' s'→FlR B F' v b→Q b loc' H'→P v s'):wpAny (model B.prog B.w) A (t env) P NoE s :=
 wpAny_mono (h A hp F s env hA R) (fun _ _ ⟨F',b,loc',H',g,r,v,q⟩=>k F' _ b loc' H' _ g r v q) fun zz zz x=>x
theorem SV.at {A:Around} {hp:Heap} {F F₀:FF} {s:Shared} {env:Env} {t:Env→Sem Flow} {Q:AF→Loc→HS→Prop}
  (hA:dQ n A) (R:RelF B hp F sc env loc H s) (g:bk hp F₀ F) (h:SV B n sc loc H t Q) :
  wpAny (model B.prog B.w) A (t env) (ES B hp F₀ sc env Q) NoE s :=
 wpAny_mono (h A hp F s env hA R) (fun _ _ ⟨F',b,loc',H',g',r,v,q⟩=>⟨F',b,loc',H',g.trans g',r,v,q⟩) fun zz zz x=>x
theorem SV.mono {t:Env→Sem Flow} {Q Q':AF→Loc→HS→Prop} (h:SV B n sc loc H t Q) (k:∀ f l H',Q f l H'→Q' f l H'):SV B n sc loc H t Q' :=
 fun A hp F s env hA R=>wpAny_mono (h A hp F s env hA R) (fun _ _ ⟨F',b,loc',H',g,r,v,q⟩=>⟨F',b,loc',H',g,r,v,k _ _ _ q⟩) fun zz zz x=>x
noncomputable def Zz (B:Base) (n:Nat) (sc:List (Str × NameKind)) (rest:List Stmt) (Q:AF→Loc→HS→Prop):AF→Loc→HS→Prop
 | .next,loc,H=>XS B n sc loc H rest Q
 | f,loc,H=>Q f loc H
theorem Nj {Q:AF→Loc→HS→Prop} (h:Q .next loc H):XS B n sc loc H [] Q:=fun A hp F s env hA R=>wpAny_execs_nil ⟨F,.next,loc,H,.refl,R,trivial,h⟩
theorem Fq {st:Stmt} {rest:List Stmt} {Q:AF→Loc→HS→Prop} (h:XO B n sc loc H st (Zz B n sc rest Q)):XS B n sc loc H (st :: rest) Q:=fun A hp F s env hA R=>by
 refine wpAny_execs_cons (SV.then hA R h fun F1 f f' loc1 H1 s1 g1 R1 hf q1=>?_)
 revert q1
 exact hf.e (fun q1=>SV.at hA R1 g1 q1) (fun q1=>⟨F1,.brk,loc1,H1,g1,R1,trivial,q1⟩) (fun q1=>⟨F1,.cont,loc1,H1,g1,R1,trivial,q1⟩) fun v a hf q1=>⟨F1,.ret a,loc1,H1,g1,R1,hf,q1⟩
theorem zf {e:Expr} {pos:Pos} {Q:AF→Loc→HS→Prop} (h:EV B n sc loc H e fun a H1=>Q (.ret a) loc H1):XO B n sc loc H (.Return (some e) pos) Q :=
 fun A hp F s env hA R=>wpAny_Return_some (FV.then hA R h fun F1 va a H1 s1 g1 R1 ha q1=>⟨F1,.ret a,loc,H1,g1,R1,ha,q1⟩)
theorem xL {pos:Pos} {Q:AF→Loc→HS→Prop} (h:Q (.ret .none) loc H):XO B n sc loc H (.Return none pos) Q :=
 fun A hp F s env hA R=>wpAny_Return_none ⟨F,.ret .none,loc,H,.refl,R,(by simp only [AVR]:AVR B.w.params F .none .none),h⟩
theorem Gb {pos:Pos} {Q:AF→Loc→HS→Prop} (h:Q .next loc H):XO B n sc loc H (.Pass pos) Q:=fun A hp F s env hA R=>wpAny_Pass ⟨F,.next,loc,H,.refl,R,trivial,h⟩
theorem AR {pos:Pos} {Q:AF→Loc→HS→Prop} (h:Q .brk loc H):XO B n sc loc H (.Break pos) Q:=fun A hp F s env hA R=>wpAny_Break ⟨F,.brk,loc,H,.refl,R,trivial,h⟩
theorem uN {pos:Pos} {Q:AF→Loc→HS→Prop} (h:Q .cont loc H):XO B n sc loc H (.Continue pos) Q:=fun A hp F s env hA R=>wpAny_Continue ⟨F,.cont,loc,H,.refl,R,trivial,h⟩
theorem Um {t:Expr} {b o:List Stmt} {pos:Pos} {Q:AF→Loc→HS→Prop} (h:TV B n sc loc H t fun c H1=>if c = true then XS B n sc loc H1 b Q else XS B n sc loc H1 o Q):XO B n sc loc H (.If t b o pos) Q :=
 fun A hp F s env hA R=>wpAny_If (FV.then hA R h fun F1 c c' H1 s1 g1 R1 e q1=>by
  have e':c = c':=e
  subst e'
  cases c with
  | true=>rw [if_pos rfl] at q1 ⊢; exact SV.at hA R1 g1 q1
  | false=>rw [if_neg Bool.false_ne_true] at q1 ⊢; exact SV.at hA R1 g1 q1)
theorem lQ {hp:Heap} {F:FF} {env:Env} {s:Shared} (R:RelF B hp F sc env loc H s):interactive env = false:=by
 unfold interactive; rw [R.fk]; rfl
theorem Fn {e:Expr} {pos:Pos} {Q:AF→Loc→HS→Prop} (h:EV B n sc loc H e fun zz H1=>Q .next loc H1) (hs:autoParam (∀ env,swapsWith e none pos.line env = pure false) aW):XO B n sc loc H (.Expr e pos) Q :=
 fun A hp F s env hA R=>wpAny_Expr_any (FV.then hA R h fun F1 va a H1 s1 g1 R1 ha q1=>⟨F1,.next,loc,H1,g1,R1,trivial,q1⟩) (lQ R) (hs env)
end
end
section
set_option bootstrap.genMatcherCode false
inductive Up (x:Str) (a:AV):Loc→Loc→Prop
 | head {o:Option AV} {r:Loc}:Up x a ((x,o) :: r) ((x,some a) :: r)
 | tail {p:Str × Option AV} {r r':Loc}:Up x a r r'→Up x a (p :: r) (p :: r')
theorem Up.names {x:Str} {a:AV} {l l':Loc} (h:Up x a l l'):l'.map (fun zz=>zz.1) = l.map (fun zz=>zz.1):=by
 induction h with
 | head=>rfl
 | tail _ ih=>exact congrArg (List.cons _) ih
theorem Up.at {x:Str} {a:AV} {l l':Loc} (h:Up x a l l'):x ∈ l.map (fun zz=>zz.1):=by
 induction h with
 | head=>exact .head _
 | tail _ ih=>exact .tail _ ih
theorem Up.mem {x y:Str} {a b:AV} {l l':Loc} (h:Up x a l l'):(l.map (fun zz=>zz.1)).Nodup→(y,some b) ∈ l'→(y = x∧b = a) ∨ (y ≠ x∧(y,some b) ∈ l):=by
 induction h with
 | head =>
  intro hn hm
  rcases List.mem_cons.mp hm with e | hm'
  ·cases e; exact .inl ⟨rfl,rfl⟩
  ·exact .inr ⟨fun e=>(List.nodup_cons.mp hn).1 (e ▸ List.mem_map.mpr ⟨_,hm',rfl⟩),.tail _ hm'⟩
 | tail h ih =>
  intro hn hm
  rcases List.mem_cons.mp hm with e | hm
  ·subst e
   exact .inr ⟨fun e=>(List.nodup_cons.mp hn).1 (by subst e; exact h.at),.head _⟩
  ·exact (ih (List.nodup_cons.mp hn).2 hm).imp id fun z=>⟨z.1,.tail _ z.2⟩
section
variable {B:Base} {n:Nat} {sc:List (Str × NameKind)} {loc loc':Loc} {H:HS}
theorem RelF.stored {hp:Heap} {F:FF} {env:Env} {s:Shared} {x:Str} {a:AV} {v:Value} {m:Str→Option Value} {h':Heap} {tk:Nat} (R:RelF B hp F sc env loc H s) (hu:Up x a loc loc') (hl:(x,NameKind.local) ∈ sc) (hv:AVR B.w.params F v a)
  (hx:∀ x a,(x,some a) ∈ loc→Iq B F env m s.heap x a) (hn:h'.Ns env.locals (fun y=>if y = x then some v else m y)) (hs:Heap.SameBut env.locals s.heap h'):RelF B hp F sc env loc' H { s with heap:=h',toks:=tk }:=by
 have keep:∀ b o,b ≠ env.locals→s.heap.get? b = some o→h'.get? b = some o:=fun b o q e=>(hs.2 b q).trans e
 have kF:∀ b o,F.f b = some o→b ≠ env.locals:=fun b o e q=>by rw [q,R.fL] at e; cases e
 have kH:∀ b,b ∈ au F.io→b ≠ env.locals:=fun b hb q=>R.kL (q ▸ hb)
 have kp:∀ b o,hp.get? b = some o→b ≠ env.locals:=fun b o e q=>by rw [q,R.hL] at e; cases e
 refine ⟨⟨fun b o e=>keep b o (kF _ _ e) (R.g.fr _ _ e),R.g.fk,R.g.fK,R.g.hl,fun i p c h1 h2=>(R.g.hc i p c h1 h2).heap fun b o hb e=>keep b o (kH b (fg (List.mem_of_getElem? h1) hb)) e,R.g.hn,R.g.hk,fun b o e=>keep b o (kp _ _ e) (R.g.kp _ _ e),R.g.gd,R.g.eg,R.g.ed,R.g.eo⟩,
  R.fk,R.eg,R.eb,R.gk,?_,?_,?_,R.hL,R.fL,R.kL,fun y c e=>let ⟨⟨o,ho⟩,k1,k2⟩:=R.cl y c e; ⟨⟨o,keep _ _ k2 ho⟩,k1,k2⟩,_,hn,fun y b hy=>?_⟩
 ·rw [hu.names]; exact R.lk
 ·rw [hu.names]; exact R.nd
 ·rw [hu.names]; exact R.db
 ·rcases hu.mem R.nd hy with ⟨rfl,rfl⟩ | ⟨hne,hy⟩
  ·exact .inl ⟨R.gk y _ hl (.inr (.inl rfl)),v,if_pos rfl,hv⟩
  ·rcases hx y b hy with ⟨k,w,h1,h2⟩ | ⟨k,c,o,w,h1,h2,h3,h4,h5,h6⟩
   ·exact .inl ⟨k,w,(if_neg hne).trans h1,h2⟩
   ·exact .inr ⟨k,c,o,w,h1,keep _ _ h5 h2,h3,h4,h5,h6⟩
theorem RelF.store {hp:Heap} {F:FF} {env:Env} {s:Shared} {x:Str} {a:AV} {v:Value} {A:Around} {Q:Unit→Shared→Prop} (R:RelF B hp F sc env loc H s) (hu:Up x a loc loc') (hl:(x,NameKind.local) ∈ sc) (hv:AVR B.w.params F v a)
  (h:∀ s',RelF B hp F sc env loc' H s'→Q () s'):wpAny (model B.prog B.w) A (storeName env x v) Q NoE s:=by
 obtain ⟨m,hm,hx⟩:=R.ns
 exact wpAny_storeName_local (R.gk x _ hl (.inr (.inl rfl))) hm (fun h' hn hs=>h _ (R.stored hu hl hv hx hn hs)) (by rw [R.fk]; rfl)
theorem zc {x:Str} {xp pos:Pos} {value:Expr} {Q:AF→Loc→HS→Prop} (hl:(x,NameKind.local) ∈ sc) (h:EV B n sc loc H value fun a H1=>∃ loc',Up x a loc loc'∧Q .next loc' H1)
  (hs:autoParam (∀ env,swapsWith value (some (.Name x xp)) pos.line env = pure false) aW):XO B n sc loc H (.Assign [.Name x xp] value pos) Q:=fun A hp F s env hA R =>
 wpAny_Assign_Name (FV.then hA R h fun F1 va a H1 s1 g1 R1 ha ⟨loc',hu,q⟩=>R1.store hu hl ha fun s2 R2=>⟨F1,.next,loc',H1,g1,R2,trivial,q⟩) (hs env)
inductive Ups:List Str→List AV→Loc→Loc→Prop
 | nil {l:Loc}:Ups [] [] l l
 | cons {x:Str} {a:AV} {xs:List Str} {as:List AV} {l l' l'':Loc}:Up x a l l'→Ups xs as l' l''→Ups (x :: xs) (a :: as) l l''
theorem fF {hp:Heap} {F:FF} {env:Env} {A:Around} {Q:Unit→Shared→Prop} {xs:List Str} {as:List AV} {loc loc':Loc} (hu:Ups xs as loc loc'):∀ {vs:List Value} {s:Shared} {ts:List (Value→Sem Unit)},RelF B hp F sc env loc H s→(∀ x ∈ xs,(x,NameKind.local) ∈ sc) →
  af B.w.params F vs as→ts.length = xs.length→(∀ (i:Nat) t x,ts[i]? = some t→xs[i]? = some x→∀ v s Q,wpAny (model B.prog B.w) A (storeName env x v) Q NoE s→wpAny (model B.prog B.w) A (t v) Q NoE s) →
  (∀ s',RelF B hp F sc env loc' H s'→Q () s')→wpAny (model B.prog B.w) A (assignInOrder ts vs) Q NoE s:=by
 induction hu with
 | nil =>
  intro vs s ts R hl hv ht hts h
  cases ts with
  | nil=>exact wpAny_pure (h _ R)
  | cons t ts=>cases ht
 | cons hu hus ih =>
  intro vs s ts R hl hv ht hts h
  cases ts with
  | nil=>cases ht
  | cons t ts =>
   simp only [af] at hv
   obtain ⟨v,r,rfl,hv1,hv2⟩:=hv
   exact wpAny_bind (wpAny_holding (hts 0 t _ rfl rfl v s _ (R.store hu (hl _ (.head _)) hv1 fun s2 R2=>ih R2 (fun y hy=>hl y (.tail _ hy)) hv2 (Nat.succ.inj ht) (fun i t' x' e1 e2=>hts (i + 1) t' x' e1 e2) h)))
noncomputable def V7:Expr→Option Str
 | .Name x _=>some x
 | _=>none
theorem zE {e:Expr} {x:Str} (h:V7 e = some x):∃ p,e = .Name x p:=by
 cases e <;> cases h
 exact ⟨_,rfl⟩
noncomputable def bH:List Expr→Option (List Str)
 | []=>some []
 | e :: r=>(V7 e).bind fun x=>(bH r).map (x :: ·)
theorem uF (env:Env):∀ (es:List Expr) (xs:List Str),bH es = some xs→(assignEach es env).length = xs.length∧(assignEach es env).findIdx? (fun zz=>zz.1) = none ∧
  ∀ (i:Nat) t x,((assignEach es env).map (fun zz=>zz.2))[i]? = some t→xs[i]? = some x→∃ p,t = assign (.Name x p) env:=by
 intro es
 induction es with
 | nil=>intro xs h; cases h; exact ⟨rfl,rfl,fun i t x e=>by cases i <;> cases e⟩
 | cons e r ih =>
  intro xs h
  obtain ⟨x,hx,h⟩:=Option.bind_eq_some_iff.mp h
  obtain ⟨ys,h1,rfl⟩:=Option.map_eq_some_iff.mp h
  obtain ⟨p,rfl⟩:=zE hx
  obtain ⟨a,b,c⟩:=ih ys h1
  have e1:assignEach (.Name x p :: r) env = (false,assign (.Name x p) env) :: assignEach r env:=rfl
  rw [e1]
  refine ⟨congrArg Nat.succ a,by rw [List.findIdx?_cons,b]; rfl,fun i t y e2 e3=>?_⟩
  cases i with
  | zero=>cases e2; cases e3; exact ⟨p,rfl⟩
  | succ i=>exact c i t y e2 e3
theorem AVR.tup {P:Params} {F:FF} {v:Value} {xs:List AV} (h:AVR P F v (.tup xs)) {s:Shared} (k:∀ a o,F.f a = some o→s.heap.get? a = some o):∃ a items,v = .ref a∧IsTup s.heap a ⟨items⟩∧af P F items xs:=by
 simp only [AVR] at h
 obtain ⟨a,o,n,items,e1,e2,e3,e4,e5⟩:=h
 exact ⟨a,items,e1,⟨o,k _ _ e2,e3,n,e4⟩,e5⟩
@[elab_as_elim] theorem AVR.etup {P:Params} {F:FF} {v:Value} {xs:List AV} {p:Value→Prop} (h:AVR P F v (.tup xs)) {s:Shared} (k:∀ a o,F.f a = some o→s.heap.get? a = some o) (c:∀ a items,IsTup s.heap a ⟨items⟩→af P F items xs→p (.ref a)):p v:=by
 obtain ⟨a,items,rfl,ht,hr⟩:=h.tup k
 exact c a items ht hr
theorem jb {hp:Heap} {F:FF} {env:Env} {A:Around} {Q:Unit→Shared→Prop} {elts:List Expr} {k:Nat} {tp:Pos} {xs:List Str} {as:List AV} {v:Value} {s:Shared} (hA:dQ n A) (R:RelF B hp F sc env loc H s) (hx:bH elts = some xs)
  (hu:Ups xs as loc loc') (hl:∀ x ∈ xs,(x,NameKind.local) ∈ sc) (hv:AVR B.w.params F v (.tup as)) (hlen:xs.length = as.length) (h:∀ s',RelF B hp F sc env loc' H s'→Q () s') :
  wpAny (model B.prog B.w) A (assign (.Tuple elts k tp) env v) Q NoE s:=by
 refine hv.etup R.g.fr fun a items ht hr=>?_
 obtain ⟨t1,t2,t3⟩:=uF env elts xs hx
 refine assign_Tuple_tuple hA.1 ht (by rw [t1,hlen,List.size_toArray,af.len hr]) t2 fun h' he=>?_
 refine fF hu (R.ext fun b o e=>he b o (Nat.ne_of_lt (Heap.lt_size e)) e) hl hr (by rw [List.length_map,t1]) (fun i t x e1 e2 v s Q q=>?_) h
 obtain ⟨p,rfl⟩:=t3 i t x e1 e2
 exact assign_Name q
theorem Ups.len {xs:List Str} {as:List AV} {l l':Loc} (h:Ups xs as l l'):xs.length = as.length:=by
 induction h with
 | nil=>rfl
 | cons _ _ ih=>simp [ih]
theorem ze {elts:List Expr} {k:Nat} {tp pos:Pos} {value:Expr} {xs:List Str} {Q:AF→Loc→HS→Prop} (hx:bH elts = some xs) (hl:∀ x ∈ xs,(x,NameKind.local) ∈ sc)
  (h:EV B n sc loc H value fun a H1=>∃ as loc',a = .tup as∧Ups xs as loc loc'∧Q .next loc' H1)
  (hs:autoParam (∀ env,swapsWithSole [.Tuple elts k tp] value pos.line env = pure false) aW)
  (hw:autoParam (∀ env,swappedStores [.Tuple elts k tp] value env = pure none) aW):XO B n sc loc H (.Assign [.Tuple elts k tp] value pos) Q:=fun A hp F s env hA R =>
 Assign_Tuple (FV.then hA R h fun F1 va a H1 s1 g1 R1 ha ⟨as,loc',e,hu,q⟩=>by
  subst e
  exact jb hA R1 hx hu hl ha hu.len fun s2 R2=>⟨F1,.next,loc',H1,g1,R2,trivial,q⟩) (hs env) (hw env)
theorem fm2 {α β:Type} {f:α→Option β} {a b:α} {x y:β} (h1:f a = some x) (h2:f b = some y):[a,b].filterMap f = [x,y]:=by
 rw [List.filterMap_cons_some h1,List.filterMap_cons_some h2]; rfl
theorem TC {L:List Str} {x y:Str} (hL:L = [x,y]) (hne:(x == y) = false):¬ ((L.length != 2 || L.eraseDups.length != L.length) = true):=by
 have:(y == x) = false:=by
  cases q:y == x with
  | false=>rfl
  | true=>rw [beq_iff_eq] at q; subst q; simp at hne
 subst hL
 simp [List.eraseDups_cons,this]
theorem Aw {env:Env} {x y:Str} {xp yp tp vp:Pos} {k k':Nat} {v1 v2:Expr} (hk:env.scope.kind = .function) (hx:env.kindOf x = some .local) (hy:env.kindOf y = some .local)
  (hline:(xp.line == yp.line) = true) (hne:(x == y) = false) (hst:[v1,v2].any (fun | .Starred ..=>true | _=>false) = false) (hf:[v1,v2].all (foldedForSure 8) = false) (hc:[v1,v2].all (constantsAlone 8) = false) :
  swappedStores [.Tuple [.Name x xp,.Name y yp] k tp] (.Tuple [v1,v2] k' vp) env = pure (some [x,y]):=by
 have hb:env.blockKind = .function:=by unfold Env.blockKind; rw [hk]; rfl
 have h1:(env.kindOf x == some NameKind.local && xp.line == xp.line) = true:=by rw [hx]; simp
 have h2:(env.kindOf y == some NameKind.local && yp.line == xp.line) = true:=by rw [hy,eq_of_beq hline]; simp
 have no:∀ {a b:Bool},a = false→a = b→¬ (b = true):=fun e e' q=>Bool.false_ne_true ((e.symm.trans e').trans q)
 refine (if_neg (show ¬ ((env.blockKind != ScopeKind.function) = true) by rw [hb]; decide)).trans ((if_neg (no hst rfl)).trans ((if_neg (TC ?_ hne)).trans ((if_neg (no hf rfl)).trans ((if_neg (no hc rfl)).trans (congrArg (fun l=>pure (some l)) ?_)))))
 all_goals
  refine fm2 ?_ ?_
  ·exact if_pos h1
  ·exact if_pos h2
theorem Gd {x y:Str} {xp yp tp vp pos:Pos} {k k':Nat} {v1 v2:Expr} {Q:AF→Loc→HS→Prop} (hlx:(x,NameKind.local) ∈ sc) (hly:(y,NameKind.local) ∈ sc)
  (h:EV B n sc loc H (.Tuple [v1,v2] k' vp) fun a H1=>∃ a1 a2 loc',a = .tup [a1,a2]∧Ups [y,x] [a2,a1] loc loc'∧Q .next loc' H1)
  (hs:autoParam (∀ env,swapsWithSole [.Tuple [.Name x xp,.Name y yp] k tp] (.Tuple [v1,v2] k' vp) pos.line env = pure false) aW)
  (hline:autoParam ((xp.line == yp.line) = true) y7) (hne:autoParam ((x == y) = false) VN) (hst:autoParam ([v1,v2].any (fun | .Starred ..=>true | _=>false) = false) y7) (hf:autoParam ([v1,v2].all (foldedForSure 8) = false) y7) (hc:autoParam ([v1,v2].all (constantsAlone 8) = false) y7) :
  XO B n sc loc H (.Assign [.Tuple [.Name x xp,.Name y yp] k tp] (.Tuple [v1,v2] k' vp) pos) Q:=fun A hp F s env hA R =>
 Assign_Tuple_swapped (FV.then hA R h fun F1 va a H1 s1 g1 R1 ha ⟨a1,a2,loc',e,hu,q⟩=>by
  subst e
  refine ha.etup R1.g.fr fun t items ht hr=>?_
  have hsz:2 = items.length:=(af.len hr).symm
  show wpAny _ _ (unpackItems (.ref t) 2 none) _ _ _
  rw [hsz]
  refine unpackItems_tuple (items:=⟨items⟩) hA.1 ht fun h' he=>?_
  have R2:=R1.ext (tk:=s1.toks) (fun b o e=>he b o (Nat.ne_of_lt (Heap.lt_size e)) e)
  refine fF (xs:=[y,x]) (as:=[a2,a1]) hu R2 (by intro z hz; simp at hz; rcases hz with rfl | rfl <;> assumption) (af.rev hr) rfl (fun i t z e1 e2 v s Q q=>?_) fun s3 R3=>⟨F1,.next,loc',H1,g1,R3,trivial,q⟩
  match i,e1,e2 with
  | 0,e1,e2=>simp at e1 e2; subst e1 e2; exact bindName_ q
  | 1,e1,e2=>simp at e1 e2; subst e1 e2; exact bindName_ q
  | i + 2,e1,e2=>simp at e2) (hs env) (Aw R.fk (R.gk x _ hlx (.inr (.inl rfl))) (R.gk y _ hly (.inr (.inl rfl))) hline hne hst hf hc)
end
end
section
set_option bootstrap.genMatcherCode false
section
variable {B:Base} {n:Nat} {H:HS}
theorem ok {α β:Type} {RV:FF→α→β→Prop} {hp:Heap} {F:FF} {s:Shared} {v:α} {b:β} {Q:β→HS→Prop} (R:RelG B hp F H s) (hv:RV F v b) (q:Q b H) :
  EG B hp F RV Q v s:=⟨F,b,H,.refl,R,hv,q⟩
section
variable {P:Params} {F:FF}
@[elab_as_elim] theorem E1 {vs:List Value} {a:AV} {p:List Value→Prop} (h:af P F vs [a]) (k:∀ v,AVR P F v a→p [v]):p vs:=by
 simp only [af] at h
 obtain ⟨v,r,rfl,h1,rfl⟩:=h
 exact k v h1
@[elab_as_elim] theorem E2 {vs:List Value} {a b:AV} {p:List Value→Prop} (h:af P F vs [a,b]) (k:∀ v w,AVR P F v a→AVR P F w b→p [v,w]):p vs:=by
 simp only [af] at h
 obtain ⟨v,r,rfl,h1,w,r',rfl,h2,rfl⟩:=h
 exact k v w h1 h2
@[elab_as_elim] theorem E3 {vs:List Value} {a b c:AV} {p:List Value→Prop} (h:af P F vs [a,b,c]) (k:∀ v w u,AVR P F v a→AVR P F w b→AVR P F u c→p [v,w,u]):p vs:=by
 simp only [af] at h
 obtain ⟨v,r,rfl,h1,w,r',rfl,h2,u,r'',rfl,h3,rfl⟩:=h
 exact k v w u h1 h2 h3
end
theorem M1 {P:Params} {F:FF} {v:Value} {i:Int} (h:AVR P F v (.int i)):∃ t,v = .int i t:=by simpa only [AVR] using h
theorem Pd {P:Params} {F:FF} {v:Value} {l:List Nat} (h:AVR P F v (.str l)):∃ t,v = .str ⟨l.toArray⟩ t:=by simpa only [AVR] using h
theorem EQ {P:Params} {F:FF} {v:Value} {b:Bool} (h:AVR P F v (.bool b)):v = .bool b:=by simpa only [AVR] using h
theorem EP {P:Params} {F:FF} {v:Value} (h:AVR P F v .none):v = .none:=by simpa only [AVR] using h
theorem Rr {P:Params} {F:FF} {v w:Value} (h:AVR P F v (.val w)):v = w:=by simpa only [AVR] using h
section
variable {P:Params} {F:FF} {v:Value} {p:Value→Prop}
@[elab_as_elim] theorem Ei {i:Int} (h:AVR P F v (.int i)) (k:∀ t,p (.int i t)):p v:=by obtain ⟨t,rfl⟩:=M1 h; exact k t
@[elab_as_elim] theorem Es {l:List Nat} (h:AVR P F v (.str l)) (k:∀ t,p (.str ⟨l.toArray⟩ t)):p v:=by obtain ⟨t,rfl⟩:=Pd h; exact k t
@[elab_as_elim] theorem Eb {b:Bool} (h:AVR P F v (.bool b)) (k:p (.bool b)):p v:=EQ h ▸ k
@[elab_as_elim] theorem En (h:AVR P F v .none) (k:p .none):p v:=EP h ▸ k
@[elab_as_elim] theorem Ev {w:Value} (h:AVR P F v (.val w)) (k:p w):p v:=Rr h ▸ k
end
theorem ax {P:Params} {F:FF} {i:Int} {t:Tok}:AVR P F (.int i t) (.int i):=by simp only [AVR]; exact ⟨t,rfl⟩
theorem aL {P:Params} {F:FF} {x:Str} {t:Tok}:AVR P F (.str x t) (.str x.cps.toList):=by simp only [AVR]; exact ⟨t,by simp⟩
theorem cy {P:Params} {F:FF} {l:List Nat} {t:Tok}:AVR P F (.str ⟨l.toArray⟩ t) (.str l):=by simp only [AVR]; exact ⟨t,rfl⟩
theorem ak {P:Params} {F:FF} {b:Bool}:AVR P F (.bool b) (.bool b):=by simp only [AVR]
theorem mh {P:Params} {F:FF}:AVR P F .none .none:=by simp only [AVR]
theorem bC {P:Params} {F:FF} {v:Value}:AVR P F v (.val v):=by simp only [AVR]
variable {a b:Int} {Q:AV→HS→Prop}
theorem ZL (h:Q (.int (a + b)) H):gD B n .Add (.int a) (.int b) H Q:=fun A hp F s vs hA R hv=>by
 refine E2 hv fun v w h1 h2=>?_
 refine Ei h1 fun t=>?_; refine Ei h2 fun u=>?_
 exact P.add_int (ok R.toks ax h)
theorem ZM (h:Q (.int (a - b)) H):gD B n .Sub (.int a) (.int b) H Q:=fun A hp F s vs hA R hv=>by
 refine E2 hv fun v w h1 h2=>?_
 refine Ei h1 fun t=>?_; refine Ei h2 fun u=>?_
 exact P.sub_int (ok R.toks ax h)
theorem SG (hm:IntMulOk a b) (h:Q (.int (a * b)) H):gD B n .Mult (.int a) (.int b) H Q:=fun A hp F s vs hA R hv=>by
 refine E2 hv fun v w h1 h2=>?_
 refine Ei h1 fun t=>?_; refine Ei h2 fun u=>?_
 exact P.mul_int (ok R.toks ax h) hm
theorem Uo (hb:b ≠ 0) (h:Q (.int (a.fmod b)) H):gD B n .Mod (.int a) (.int b) H Q:=fun A hp F s vs hA R hv=>by
 refine E2 hv fun v w h1 h2=>?_
 refine Ei h1 fun t=>?_; refine Ei h2 fun u=>?_
 exact mod_int hb (ok R.toks ax h)
theorem ZO (hb:b ≠ 0) (hp':Builtin.divisionGoesByPylong a b = false) (h:Q (.int (a.fdiv b)) H):gD B n .FloorDiv (.int a) (.int b) H Q:=fun A hp F s vs hA R hv=>by
 refine E2 hv fun v w h1 h2=>?_
 refine Ei h1 fun t=>?_; refine Ei h2 fun u=>?_
 exact floordiv_int hb (ok R.toks ax h) (.inl hp')
theorem ZH (hb:0≤b) (hz:(Builtin.Int.intBits a:Int) * b≤2 ^ 27) (h:Q (.int (a ^ b.toNat)) H):gD B n .Pow (.int a) (.int b) H Q:=fun A hp F s vs hA R hv=>by
 refine E2 hv fun v w h1 h2=>?_
 refine Ei h1 fun t=>?_; refine Ei h2 fun u=>?_
 exact pow_int hb hz (ok R.toks ax h)
theorem ZE (h:Q (.int (-a)) H):Fi B n .USub (.int a) H Q:=fun A hp F s vs hA R hv=>by
 refine E1 hv fun v h1=>?_
 refine Ei h1 fun t=>?_
 exact P.neg_int (ok R.toks ax h)
theorem Z0 (h:Q (.bool (a == b)) H):CMP B n .Eq (.int a) (.int b) H Q:=fun A hp F s vs hA R hv=>by
 refine E2 hv fun v w h1 h2=>?_
 refine Ei h1 fun t=>?_; refine Ei h2 fun u=>?_
 exact P.eq_int (ok R ak h)
theorem ZU (h:Q (.bool (a != b)) H):CMP B n .NotEq (.int a) (.int b) H Q:=fun A hp F s vs hA R hv=>by
 refine E2 hv fun v w h1 h2=>?_
 refine Ei h1 fun t=>?_; refine Ei h2 fun u=>?_
 exact P.ne_int (ok R ak h)
theorem ZS (h:Q (.bool (decide (a < b))) H):CMP B n .Lt (.int a) (.int b) H Q:=fun A hp F s vs hA R hv=>by
 refine E2 hv fun v w h1 h2=>?_
 refine Ei h1 fun t=>?_; refine Ei h2 fun u=>?_
 exact P.lt_int (ok R ak h)
theorem ZP (h:Q (.bool (decide (a > b))) H):CMP B n .Gt (.int a) (.int b) H Q:=fun A hp F s vs hA R hv=>by
 refine E2 hv fun v w h1 h2=>?_
 refine Ei h1 fun t=>?_; refine Ei h2 fun u=>?_
 exact P.gt_int (ok R ak h)
theorem ZY (h:Q (.bool (decide (a ≥ b))) H):CMP B n .GtE (.int a) (.int b) H Q:=fun A hp F s vs hA R hv=>by
 refine E2 hv fun v w h1 h2=>?_
 refine Ei h1 fun t=>?_; refine Ei h2 fun u=>?_
 exact P.ge_int (ok R ak h)
theorem DF {c d:Bool} (h:Q (.bool (c == d)) H):CMP B n .Eq (.bool c) (.bool d) H Q:=fun A hp F s vs hA R hv=>by
 refine E2 hv fun v w h1 h2=>?_
 refine Eb h1 ?_; refine Eb h2 ?_
 exact eq_bool (ok R ak h)
theorem MI {c:Bool} {Q:Bool→HS→Prop} (h:Q c H):gI B n (.bool c) H Q:=fun A hp F s vs hA R hv=>by
 refine E1 hv fun v h1=>?_
 refine Eb h1 ?_
 exact wpAny_truthy_bool (ok R rfl h)
theorem ZJ {x:AV} (h:gI B n x H fun c H1=>Q (.bool (!c)) H1):Fi B n .Not x H Q:=fun A hp F s vs hA R hv=>by
 refine E1 hv fun v h1=>?_
 refine not_of (wpAny_mono (h A hp F s [v] hA R (.cons h1 .nil)) ?_ fun zz zz x=>x)
 rintro c s' ⟨F',c',H',g,r,e,q⟩
 have e':c = c':=e
 subst e'
 exact ⟨F',_,H',g,r,ak,q⟩
theorem n6 {P:Params} {F:FF} {v:Value} {x:AV} (hx:x ≠ .none) (hv:x ≠ .val .none) (h:AVR P F v x):(v == Value.none) = false:=by
 cases q:v == Value.none with
 | false=>rfl
 | true =>
  have q:v = .none:=beq_iff_eq.mp q
  subst q
  cases x with
  | none=>exact absurd rfl hx
  | bool=>simp [AVR] at h
  | int=>simp [AVR] at h
  | str=>simp [AVR] at h
  | val w=>simp only [AVR] at h; subst h; exact absurd rfl hv
  | tup=>simp [AVR] at h
  | lst=>simp [AVR] at h
  | arg=>simp [AVR] at h
  | cell=>simp [AVR] at h
  | rng=>simp [AVR] at h
  | obj=>simp [AVR] at h
theorem Ln (h:Q (.bool true) H):CMP B n .Is .none .none H Q:=fun A hp F s vs hA R hv=>by
 refine E2 hv fun v w h1 h2=>?_
 refine En h1 ?_; refine En h2 ?_
 exact is_none (ok R ak h)
theorem kG {x:AV} (hx:x ≠ .none) (hv:x ≠ .val .none) (h:Q (.bool false) H):CMP B n .Is x .none H Q:=fun A hp F s vs hA R hvs=>by
 refine E2 hvs fun v w h1 h2=>?_
 refine En h2 ?_
 have e:(a0 [v,Value.none] == Value.none) = false:=n6 hx hv h1
 refine is_none ?_
 rw [e]
 exact ok R ak h
theorem Cr {x:AV} (hx:x ≠ .none) (hv:x ≠ .val .none) (h:Q (.bool true) H):CMP B n .IsNot x .none H Q:=fun A hp F s vs hA R hvs=>by
 refine E2 hvs fun v w h1 h2=>?_
 refine En h2 ?_
 have e:(a0 [v,Value.none] == Value.none) = false:=n6 hx hv h1
 refine isNot_none ?_
 rw [e]
 exact ok R ak h
theorem Ex (h:Q (.bool false) H):CMP B n .IsNot .none .none H Q:=fun A hp F s vs hA R hvs=>by
 refine E2 hvs fun v w h1 h2=>?_
 refine En h1 ?_; refine En h2 ?_
 exact isNot_none (ok R ak h)
theorem ZN {x y:List Nat} (h:Q (.bool (x == y)) H):CMP B n .Eq (.str x) (.str y) H Q:=fun A hp F s vs hA R hv=>by
 refine E2 hv fun v w h1 h2=>?_
 refine Es h1 fun t=>?_; refine Es h2 fun u=>?_
 exact P.eq_str (ok R ak h)
theorem ZB {x y:List Nat} (h:Q (.bool (x != y)) H):CMP B n .NotEq (.str x) (.str y) H Q:=fun A hp F s vs hA R hv=>by
 refine E2 hv fun v w h1 h2=>?_
 refine Es h1 fun t=>?_; refine Es h2 fun u=>?_
 exact P.ne_str (ok R ak h)
end
end
section
set_option bootstrap.genMatcherCode false
noncomputable def o9 (x:Str):List (Str × AV)→Option AV
 | []=>none
 | (k,a) :: r=>if k == x then some a else o9 x r
noncomputable def rf (x:Str) (v:AV):List (Str × AV)→List (Str × AV)
 | []=>[(x,v)]
 | (k,a) :: r=>if k == x then (k,v) :: r else (k,a) :: rf x v r
theorem mf {P:Params} {F:FF} {x:Str}:∀ {es:List DictEntry} {fs:List (Str × AV)},aX P F es fs →
  (es.any (fun zz=>zz.refKey) = false)∧((∃ v a,getL x es = some (some v)∧o9 x fs = some a∧AVR P F v a) ∨ (getL x es = some none∧o9 x fs = none))
 | _,[],r=>by
  simp only [aX] at r; subst r
  exact ⟨rfl,.inr ⟨rfl,rfl⟩⟩
 | _,(k,a) :: fs,r=>by
  simp only [aX] at r
  obtain ⟨e,es,t,rfl,e1,e2,e3,e4⟩:=r
  obtain ⟨n1,ih⟩:=mf (x:=x) e4
  have hk:e.refKey = false:=by unfold DictEntry.refKey; rw [e1]
  refine ⟨by rw [List.any_cons,hk,n1]; rfl,?_⟩
  have hs:e.key.isStr x = (k == x):=by rw [e1]; rfl
  unfold getL o9
  rw [List.find?_cons,hs]
  cases q:k == x with
  | true=>exact .inl ⟨e.val,a,rfl,by simp,e3⟩
  | false =>
   simp only [List.any_cons,hk,Bool.false_or]
   exact ih
theorem yY {P:Params} {F:FF} {x:Str} {t:Tok} {v:Value} {a:AV} (hv:AVR P F v a):∀ {es:List DictEntry} {fs:List (Str × AV)},aX P F es fs →
  aX P F (putL x (PyData.keyHash P x) (.str x t) v es) (rf x a fs)
 | _,[],r=>by
  simp only [aX] at r; subst r
  simp only [putL,rf,aX]
  exact ⟨_,[],t,rfl,rfl,rfl,hv,rfl⟩
 | _,(k,b) :: fs,r=>by
  simp only [aX] at r
  obtain ⟨e,es,t',rfl,e1,e2,e3,e4⟩:=r
  have hs:e.key.isStr x = (k == x):=by rw [e1]; rfl
  unfold putL rf
  rw [hs]
  cases q:k == x with
  | true =>
   simp only [if_true,aX]
   exact ⟨_,es,t',rfl,e1,e2,hv,e4⟩
  | false =>
   simp only [Bool.false_eq_true,if_false,aX]
   exact ⟨e,_,t',rfl,e1,e2,e3,yY hv e4⟩
theorem uy {x:Str} {hs:Int} {k v:Value}:∀ es:List DictEntry,(putL x hs k v es).length≤es.length + 1
 | []=>Nat.le_refl _
 | e :: r=>by
  unfold putL
  split
  ·simp
  ·have:=uy (x:=x) (hs:=hs) (k:=k) (v:=v) r
   simp only [List.length_cons]; lia
theorem aX.len {P:Params} {F:FF}:∀ {es:List DictEntry} {fs:List (Str × AV)},aX P F es fs→es.length = fs.length
 | _,[],r=>by simp only [aX] at r; subst r; rfl
 | _,(k,b) :: fs,r=>by
  simp only [aX] at r
  obtain ⟨e,es,t',rfl,e1,e2,e3,e4⟩:=r
  simp only [List.length_cons,aX.len e4]
theorem nI:∀ {l:List (Addr × Addr)} {i j:Nat} {p q:Addr × Addr} {b:Addr},(au l).Nodup→l[i]? = some p→l[j]? = some q→i ≠ j→b ∈ du p→b ∉ du q
 | [],i,j,p,q,b,_,h1,_,_,_=>by simp at h1
 | r :: l,i,j,p,q,b,hn,h1,h2,hne,hb=>by
  simp only [au] at hn
  obtain ⟨n1,n2,n3⟩:=List.nodup_append.mp hn
  have inl:∀ (k:Nat) (u:Addr × Addr),l[k]? = some u→∀ x ∈ du u,x ∈ au l:=fun k u e x hx=>fg (List.mem_of_getElem? e) (aN.mp hx)
  cases i with
  | zero =>
   cases j with
   | zero=>exact absurd rfl hne
   | succ j =>
    simp only [List.getElem?_cons_zero,Option.some.injEq] at h1
    simp only [List.getElem?_cons_succ] at h2
    subst h1
    exact fun h=>n3 b hb b (inl _ _ h2 _ h) rfl
  | succ i =>
   cases j with
   | zero =>
    simp only [List.getElem?_cons_zero,Option.some.injEq] at h2
    simp only [List.getElem?_cons_succ] at h1
    subst h2
    exact fun h=>n3 b h b (inl _ _ h1 _ hb) rfl
   | succ j =>
    simp only [List.getElem?_cons_succ] at h1 h2
    exact nI n2 h1 h2 (fun e=>hne (by rw [e])) hb
theorem RelG.upd {B:Base} {hp:Heap} {F:FF} {H:HS} {s:Shared} {i:Nat} {p:Addr × Addr} {b:Addr} {c:Cell} {h':Heap} {tk:Nat} (R:RelG B hp F H s) (hi:F.io[i]? = some p) (hb:b ∈ du p)
  (ho:∀ x,x ≠ b→h'.get? x = s.heap.get? x) (hc:bo B.w.params F h' p c):RelG B hp F (H.set i c) { s with heap:=h',toks:=tk }:=by
 have hbk:b ∈ au F.io:=fg (List.mem_of_getElem? hi) (aN.mp hb)
 refine ⟨fun a o e=>?_,R.fk,R.fK,by rw [List.length_set]; exact R.hl,fun j q c' h1 h2=>?_,R.hn,R.hk,fun a o e=>?_,R.gd,R.eg,R.ed,R.eo⟩
 ·have:a ≠ b:=fun q=>by rw [q,R.fk b hbk] at e; cases e
  exact (ho a this).trans (R.fr a o e)
 ·by_cases q':i = j
  ·subst q'
   rw [hi] at h1; cases h1
   have:i < H.length:=by rw [← R.hl]; exact (List.getElem?_eq_some_iff.mp hi).1
   rw [List.getElem?_set_self this] at h2
   cases h2
   exact hc
  ·rw [List.getElem?_set_ne q'] at h2
   refine (R.hc j q c' h1 h2).heap fun x o hx e=>?_
   have:x ≠ b:=fun z=>nI R.hn hi h1 q' hb (z ▸ aN.mpr hx)
   exact (ho x this).trans e
 ·have:a ≠ b:=fun q=>by rw [q,(R.hk b hbk).1] at e; cases e
  exact (ho a this).trans (R.kp a o e)
@[elab_as_elim] theorem RelG.cell {B:Base} {hp:Heap} {F:FF} {H:HS} {s:Shared} {v:Value} {i:Nat} {c:Cell} {p:Value→Prop} (R:RelG B hp F H s) (hv:AVR B.w.params F v (.cell i)) (hi:H[i]? = some c)
  (k:∀ q:Addr × Addr,F.io[i]? = some q→bo B.w.params F s.heap q c→p (.ref q.1)):p v:=by
 simp only [AVR] at hv
 obtain ⟨a,d,e1,rfl⟩:=hv
 exact k (a,d) e1 (R.hc i _ c e1 hi)
theorem tZ {P:Params} {F:FF} {q:Addr × Addr} {i:Nat} (e:F.io[i]? = some q):AVR P F (.ref q.1) (.cell i):=by
 simp only [AVR]
 exact ⟨q.1,q.2,e,rfl⟩
noncomputable def aZ:AV→Bool
 | .val v=>handedIn v
 | _=>true
theorem qU {P:Params} {F:FF} {v:Value}:∀ {a:AV},AVR P F v a→aZ a = true→handedIn v = true
 | .none,h,_=>by simp only [AVR] at h; subst h; rfl
 | .bool _,h,_=>by simp only [AVR] at h; subst h; rfl
 | .int _,h,_=>by simp only [AVR] at h; obtain ⟨t,rfl⟩:=h; rfl
 | .str _,h,_=>by simp only [AVR] at h; obtain ⟨t,rfl⟩:=h; rfl
 | .val w,h,k=>by simp only [AVR] at h; subst h; exact k
 | .tup _,h,_=>by simp only [AVR] at h; obtain ⟨a,o,n,items,rfl,_⟩:=h; rfl
 | .lst _,h,_=>by simp only [AVR] at h; obtain ⟨a,n,items,rfl,_⟩:=h; rfl
 | .arg _,h,_=>by simp only [AVR] at h; obtain ⟨a,o,n,items,rfl,_⟩:=h; rfl
 | .cell _,h,_=>by simp only [AVR] at h; obtain ⟨a,d,_,rfl⟩:=h; rfl
 | .rng _ _ _,h,_=>by simp only [AVR] at h; obtain ⟨r,t,u,w,rfl,_⟩:=h; rfl
 | .obj _ _ _,h,_=>by simp only [AVR] at h; obtain ⟨a,d,es,m,rfl,_⟩:=h; rfl
section
variable {B:Base} {n:Nat} {H:HS} {i:Nat} {C:Addr} {fs:List (Str × AV)} {x:Str}
theorem dp {h:Heap} {p:Addr × Addr} {es:List DictEntry} {m:Nat} (e1:h.get? p.1 = some (instObj C p.2)) (e2:h.get? p.2 = some (dictOf es m)):InstAt h p.1 (instObj C p.2) C (some (dictOf es m)) :=
 ⟨e1,rfl,rfl,e2⟩
theorem EY {a:AV} {attr:Option Value} {Q:AV→HS→Prop} (hi:H[i]? = some (.inst C fs)) (hg:plainGet B.K C x = true) (hh:hasDictIn B.K C = true) (ha:findIn B.K (.ref C) x = some attr) (hn:noGet B.K attr = true)
  (hf:o9 x fs = some a) (hd:aZ a = true) (h:Q a H):fN B n (.cell i) x H Q:=fun A hp F s vs hA R hv=>by
 refine E1 hv fun v hv1=>?_
 refine R.cell hv1 hi fun p hpi hc=>?_; obtain ⟨q,es,m,e1,e2,e3⟩:=hc
 obtain ⟨_,⟨w,a',g1,g2,g3⟩ | ⟨g1,g2⟩⟩:=mf (x:=x) e3
 ·rw [hf] at g2; cases g2
  exact get_value R.good.X (dp e1 e2) (plainGet_of hg).1 (findObj_own hh ha hn g1) (qU g3 hd) (ok R.toks g3 h)
 ·rw [hf] at g2; cases g2
noncomputable abbrev jf (B:Base) (n:Nat) (o v:AV) (x:Str) (H:HS) (Q:Unit→HS→Prop):Prop:=GW B UR n H [o,v] (fun vs=>setAttr (a0 vs) x (a1 vs)) Q
theorem Bj {prog:Program} {w:World} {A:Around} {K:Frag} {s:Shared} {R:Result→Shared→Prop} {xa dx:Addr} {tk:Tok} {v:Value} {es:List DictEntry} {m:Nat} (X:K.In s.heap) (e1:s.heap.get? xa = some (instObj C dx)) (e2:s.heap.get? dx = some (dictOf es m))
  (hp:plainOver K C = true) (ht:takerIn K C x = some none) (hh:hasDictIn K C = true) (hr:es.any (fun zz=>zz.refKey) = false) (hz:es.length≤1000)
  (h:R (.ok (.ret .none)) { s with heap:=s.heap.update dx (Obj.putName x (PyData.keyHash w.params x) (.str x s.toks) v),toks:=s.toks + 1 }) :
  codeAny (model prog w) A (.call (.builtin "object.__setattr__") ⟨[.ref xa,.str x tk,v],[]⟩) R s:=by
 refine osa_open X (dp (p:=(xa,dx)) e1 e2) hp ht fun b=>?_
 obtain ⟨cd,hc,hd'⟩:=any_some hh
 have D':(s.heap.update dx (Obj.putName x (PyData.keyHash w.params x) (.str x s.toks) v)).get? dx = some (dictOf (putL x (PyData.keyHash w.params x) (.str x s.toks) v es) (putN x es m)):=by
  rw [Heap.get?_update_self _ e2 (by rw [putName_dict]; rfl),putName_dict]
 refine wpAny_bind (wpAny_pure (wpAny_bind (wpAny_bind (wpAny_loadPart e1 (wpAny_bind ((looks_clsIn X hc).here ?_))))))
 rw [hd']
 refine wpAny_pure (a:=some dx) (wpAny_bind (wpAny_pure (wpAny_bind ?_)))
 unfold nsSet
 refine wpAny_bind (wpAny_bind (wpAny_askSetting (wpAny_pure (wpAny_bind (wpAny_mkText (wpAny_bind (wpAny_loadPart e2 ?_)))))))
 dsimp only
 have c:(!es.toArray.any (·.key.isStr x) && es.toArray.any (fun zz=>zz.refKey)) = false:=by
  rw [← Array.any_toList,← Array.any_toList,List.toList_toArray,hr,Bool.and_false]
 rw [aRefKeyMayBeTheName_at,c]
 refine wpAny_updatePart e2 ?_
 refine wpAny_bind (wpAny_lookBehind D' (pastItsLine_dict (by rw [List.size_toArray,sizeLine_eq]; have:=uy (x:=x) (hs:=PyData.keyHash w.params x) (k:=.str x s.toks) (v:=v) es; lia)) ?_)
 exact wpAny_pure h
theorem yQ {a:AV} {Q:Unit→HS→Prop} (hi:H[i]? = some (.inst C fs)) (hs:findIn B.K (.ref C) "__setattr__" = some (some (.builtin "object.__setattr__"))) (hp:plainOver B.K C = true) (ht:takerIn B.K C x = some none) (hh:hasDictIn B.K C = true)
  (hz:fs.length≤1000) (h:Q () (H.set i (.inst C (rf x a fs)))):jf B n (.cell i) a x H Q:=fun A hpp F s vs hA R hv=>by
 refine E2 hv fun v w hv1 hw=>?_
 refine R.cell hv1 hi fun p hpi hc=>?_; obtain ⟨q,es,m,e1,e2,e3⟩:=hc
 refine set_plain R.good.X (dp e1 e2) hs (Bj (s:={ s with toks:=s.toks + 1 }) R.good.X e1 e2 hp ht hh (mf (x:=x) e3).1 (by rw [e3.len]; exact hz) ?_)
 refine ⟨F,(),_,.refl,R.upd (tk:=s.toks + 1 + 1) (b:=p.2) hpi (aN.mpr (.inr rfl)) (fun y hy=>Heap.get?_update_other _ _ (Ne.symm hy)) ?_,trivial,h⟩
 refine ⟨q,putL x (PyData.keyHash B.w.params x) (.str x (s.toks + 1)) w es,putN x es m,?_,?_,yY hw e3⟩
 ·rw [Heap.get?_update_other _ _ q]; exact e1
 ·rw [Heap.get?_update_self _ e2 (by rw [putName_dict]; rfl),putName_dict]; rfl
end
end
section
set_option bootstrap.genMatcherCode false
theorem mG {x:Str} {ns:List Str} (hm:x ∈ ns):∀ {vs:List Value},ns.length≤vs.length→(List.lookup x (ns.zip vs)).isSome = true:=by
 induction ns with
 | nil=>cases hm
 | cons n ns ih =>
  intro vs hl
  cases vs with
  | nil=>cases hl
  | cons v vs =>
   rw [List.zip_cons_cons,List.lookup_cons]
   cases q:x == n with
   | true=>rfl
   | false =>
    rcases List.mem_cons.mp hm with e | hm
    ·rw [e,beq_self_eq_true] at q; cases q
    ·exact ih hm (Nat.le_of_succ_le_succ hl)
theorem oo {ns:List Str}:∀ {vs:List Value} (pre:List (Str × Value)),ns.Nodup→ns.length = vs.length→(∀ n ∈ ns,List.lookup n pre = none) →
  List.filterMap (fun n=>Option.map (fun x=>(n,x)) (List.lookup n (pre++ns.zip vs))) ns = ns.zip vs:=by
 induction ns with
 | nil=>intro vs pre hn hl hp; rfl
 | cons n ns ih =>
  intro vs pre hn hl hp
  cases vs with
  | nil=>cases hl
  | cons v vs =>
   have hn':=List.nodup_cons.mp hn
   have e1:List.lookup n (pre++(n :: ns).zip (v :: vs)) = some v:=by
    rw [List.lookup_append,hp n (.head _),List.zip_cons_cons,List.lookup_cons]; simp
   rw [List.filterMap_cons,e1]
   have:=ih (vs:=vs) (pre++[(n,v)]) hn'.2 (Nat.succ.inj hl) (fun m hm=>by
    rw [List.lookup_append,hp m (.tail _ hm)]
    have:(m == n) = false:=by
     cases q:m == n with
     | false=>rfl
     | true=>rw [beq_iff_eq] at q; subst q; exact absurd hm hn'.1
    simp [List.lookup_cons,this])
   rw [List.append_assoc] at this
   exact congrArg _ this
theorem wZ {L:List (Str × Value)} {S:List (Str × Value)} (h:∀ x ∈ L,(List.lookup x.1 S).isNone = false) :
  (forIn L S fun x s=>if (List.lookup x.fst s).isNone = true then (pure (ForInStep.yield (s++[(x.fst,x.snd)])):Sem _) else pure (ForInStep.yield s)) = pure S:=by
 induction L with
 | nil=>rfl
 | cons x r ih =>
  rw [List.forIn_cons,h x (.head _),if_neg Bool.false_ne_true,pure_bind]
  exact ih fun y hy=>h y (.tail _ hy)
noncomputable def DefaultsAre (s:Shared) (fd:FuncData):Prop:=fd.defaults = .none ∨ ∃ T o items n,fd.defaults = .ref T∧s.heap.get? T = some o∧o.data = .seq items n
theorem pg {s:Shared} {fd:FuncData} (h:DefaultsAre s fd) {M:Model} {A:Around} {E:Value→Shared→Prop} {α:Type} {k:Option (Array Value)→Sem α} {Q:α→Shared→Prop}
  (hk:∀ d,wpAny M A (k d) Q E s):wpAny M A (seqItems? fd.defaults >>= k) Q E s:=by
 rcases h with e | ⟨T,o,items,n,e,ho,hd⟩
 ·rw [e]
  refine wpAny_bind ?_
  show wpAny M A (do notAStandIn .none; pure none) _ E s
  exact wpAny_bind (wpAny_pure (wpAny_pure (hk none)))
 ·rw [e]
  exact wpAny_bind (wpAny_seqItems ho hd (hk _))
theorem O7 {α:Type} {M:Model} {A:Around} {E:Value→Shared→Prop} {Q:α→Shared→Prop} {s:Shared} {x y:Sem α} (e:x = y) (h:wpAny M A y Q E s):wpAny M A x Q E s:=e ▸ h
theorem BJ {α:Type} {M:Model} {A:Around} {E:Value→Shared→Prop} {Q:α→Shared→Prop} {s:Shared} {c:Bool} {x y:Sem α} (e:c = false) (h:wpAny M A y Q E s):wpAny M A (if c = true then x else y) Q E s:=by
 subst e; exact h
theorem xQ {s:Shared} {fd:FuncData} {as:List Arg} {dfl:List Expr} {vs:List Value} (hp:fd.params = ⟨[],as,none,[],[],none,dfl⟩) (hd:DefaultsAre s fd)
  (hn:(as.map (fun zz=>zz.arg)).Nodup) (hl:as.length = vs.length):BindsTo s fd ⟨vs,[]⟩ ((as.map (fun zz=>zz.arg)).zip vs):=fun M A E Q hq=>by
 have hl':(as.map (fun zz=>zz.arg)).length = vs.length:=by rw [List.length_map]; exact hl
 have c1:(decide (vs.length > (as.map (fun zz=>zz.arg)).length) && true) = false:=by rw [hl']; simp
 have c2:∀ k,(!(List.filter (fun n=>(List.lookup n ((as.map (fun zz=>zz.arg)).zip vs)).isNone) (List.take k (as.map (fun zz=>zz.arg)))).isEmpty) = false:=fun k=>by
  rw [Bool.not_eq_false',List.isEmpty_iff,List.filter_eq_nil_iff]
  intro n hm
  have:=mG (vs:=vs) (List.mem_of_mem_take hm) (Nat.le_of_eq hl')
  simp [Option.isNone_iff_eq_none,Option.isSome_iff_ne_none.mp this]
 have c3:∀ x:Str × Value,x.1 ∈ as.map (fun zz=>zz.arg)→(List.lookup x.1 ((as.map (fun zz=>zz.arg)).zip vs)).isNone = false:=fun x hm=>by
  have:=mG (vs:=vs) hm (Nat.le_of_eq hl')
  cases q:List.lookup x.1 ((as.map (fun zz=>zz.arg)).zip vs) with
  | none=>rw [q] at this; cases this
  | some _=>rfl
 have c4:=oo (ns:=as.map (fun zz=>zz.arg)) (vs:=vs) [] hn hl' (fun zz zz=>rfl)
 obtain ⟨a1,a2,p,a4,a5,a6,a7,a8,a9,a10,a11,a12,a13,a14,a15⟩:=fd
 cases hp
 refine wpAny_bind (wpAny_pure (pg hd fun d=>BJ c1 (BJ (c2 _) (wpAny_bind (O7 (wZ fun x hx=>c3 x (List.mem_of_mem_drop (List.of_mem_zip hx).1)) (wpAny_pure (wpAny_bind (wpAny_pure ?_))))))))
 refine wpAny_pure ?_
 show Q ((([]++as.map Arg.arg)++[]).filterMap _) s
 rw [List.nil_append,List.append_nil]; erw [c4]
 exact hq
end
section
set_option bootstrap.genMatcherCode false
theorem kB {k:Str→Option NameKind} {x:Str}:∀ {ns:List Str} {vs:List Value} {m:Str→Option Value},x ∉ ns→bindL k (ns.zip vs) m x = m x
 | [],_,_,_=>rfl
 | n :: ns,[],_,_=>rfl
 | n :: ns,v :: vs,m,h=>by
  rw [List.zip_cons_cons]
  unfold bindL
  rw [kB fun q=>h (.tail _ q)]
  have hx:x ≠ n:=fun e=>h (e ▸ .head _)
  split
  ·exact if_neg hx
  ·rfl
theorem kE {k:Str→Option NameKind} {x:Str}:∀ {ns:List Str} {vs:List Value} {m:Str→Option Value},x ∉ ns→bindC k (ns.zip vs) m x = m x
 | [],_,_,_=>rfl
 | n :: ns,[],_,_=>rfl
 | n :: ns,v :: vs,m,h=>by
  rw [List.zip_cons_cons]
  unfold bindC
  rw [kE fun q=>h (.tail _ q)]
  have hx:x ≠ n:=fun e=>h (e ▸ .head _)
  split
  ·rfl
  ·exact if_neg hx
theorem uz {P:Params} {F:FF} {k:Str→Option NameKind} {x:Str} {a:AV} (hk:k x = some .local):∀ {ns:List Str} {vs:List Value} {as:List AV} {m:Str→Option Value},ns.Nodup→af P F vs as→List.lookup x (ns.zip as) = some a →
  ∃ v,bindL k (ns.zip vs) m x = some v∧AVR P F v a
 | [],_,_,_,_,_,h=>by simp at h
 | n :: ns,vs,[],m,_,_,h=>by simp at h
 | n :: ns,vs,b :: as,m,hn,hv,h=>by
  simp only [af] at hv
  obtain ⟨v,r,rfl,h1,h2⟩:=hv
  have hn':=List.nodup_cons.mp hn
  rw [List.zip_cons_cons,List.lookup_cons] at h
  rw [List.zip_cons_cons]
  unfold bindL
  cases q:x == n with
  | true =>
   rw [q] at h; cases h
   rw [beq_iff_eq] at q; subst q
   rw [kB hn'.1,if_pos hk]
   exact ⟨v,if_pos rfl,h1⟩
  | false =>
   rw [q] at h
   exact uz hk hn'.2 h2 h
theorem um {P:Params} {F:FF} {k:Str→Option NameKind} {x:Str} {a:AV} (hk:k x ≠ some .local):∀ {ns:List Str} {vs:List Value} {as:List AV} {m:Str→Option Value},ns.Nodup→af P F vs as→List.lookup x (ns.zip as) = some a →
  ∃ v,bindC k (ns.zip vs) m x = some v∧AVR P F v a
 | [],_,_,_,_,_,h=>by simp at h
 | n :: ns,vs,[],m,_,_,h=>by simp at h
 | n :: ns,vs,b :: as,m,hn,hv,h=>by
  simp only [af] at hv
  obtain ⟨v,r,rfl,h1,h2⟩:=hv
  have hn':=List.nodup_cons.mp hn
  rw [List.zip_cons_cons,List.lookup_cons] at h
  rw [List.zip_cons_cons]
  unfold bindC
  cases q:x == n with
  | true =>
   rw [q] at h; cases h
   rw [beq_iff_eq] at q; subst q
   rw [kE hn'.1,if_neg hk]
   exact ⟨v,if_pos rfl,h1⟩
  | false =>
   rw [q] at h
   exact um hk hn'.2 h2 h
structure FnOk (B:Base) (f:Addr) (fd:FuncData) (body:List Stmt):Prop where
 at_:∃ o,B.K.lookup f = some o∧o.data = .func fd
 body:fd.body = .stmts body
 code:codeIn B.K fd.code fd.qualname = true
 kind:fd.scope.kind = .function
 co:fd.scope.isCoroutine = false
 gen:fd.scope.isGenerator = false
 gl:fd.globals = mainGlobals
 bi:fd.builtins = builtinsNs
 cl:fd.closure = []
noncomputable def Cg:AF→AV→Prop
 | .ret a,b=>b = a
 | _,b=>b = .none
structure Entry (scope:Scope) (names:List Str) (args:List AV) (sc:List (Str × NameKind)) (loc:Loc):Prop where
 nd:names.Nodup
 len:names.length = args.length
 kinds:∀ x ∈ names,scope.names.lookup x = some .local ∨ scope.names.lookup x = some .cell
 sc:∀ x k,(x,k) ∈ sc→k = .globalImplicit ∨ k = .local ∨ k = .cell→scope.names.lookup x = some k
 lk:∀ x,x ∈ loc.map (fun zz=>zz.1)→scope.names.lookup x = some .local ∨ scope.names.lookup x = some .cell
 ln:(loc.map (fun zz=>zz.1)).Nodup
 db:∀ x ∈ loc.map (fun zz=>zz.1),(x == ("__debug__":Str)) = false
 at_:∀ x a,(x,some a) ∈ loc→List.lookup x (names.zip args) = some a
theorem dm {x:Str} {a:AV}:∀ {ns:List Str} {as:List AV},List.lookup x (ns.zip as) = some a→x ∈ ns
 | [],_,h=>by simp at h
 | n :: ns,[],h=>by simp at h
 | n :: ns,b :: as,h=>by
  rw [List.zip_cons_cons,List.lookup_cons] at h
  cases q:x == n with
  | true=>rw [beq_iff_eq] at q; subst q; exact .head _
  | false=>rw [q] at h; exact .tail _ (dm h)
end
section
set_option bootstrap.genMatcherCode false
noncomputable def aJ (B:Base) (n:Nat) (f:Value) (args:List AV) (H:HS) (Q:AV→HS→Prop):Prop :=
 ∀ A hp F s vs,dQ n A→RelG B hp F H s→af B.w.params F vs args →
  codeAny (model B.prog B.w) A (.call f ⟨vs,[]⟩) (fun r s'=>match r with
   | .ok (.ret v)=>EG B hp F (VR B) Q v s'
   | .ok _=>False
   | .error _=>False) s
section
variable {B:Base} {n:Nat} {H:HS} {f:Addr} {fd:FuncData} {body:List Stmt} {args args':List AV} {names:List Str} {sc:List (Str × NameKind)} {loc:Loc}
theorem aJ.call {g:Value} {Q:AV→HS→Prop} (h:aJ B n g args H Q):ac B n g args H Q:=fun A hp F s vs hA R hv=>by
 refine wpAny_call (codeAny_mono (h A hp F s vs hA R hv) fun r s' z=>?_)
 rcases r with e | (v | _ | _ | _) <;> first | exact z | exact z.elim
theorem sE {Q:AV→HS→Prop} (hf:FnOk B f fd body) (en:Entry fd.scope names args' sc loc)
  (hb:∀ hp F s vs,RelG B hp F H s→af B.w.params F vs args→∃ vs',BindsTo s fd ⟨vs,[]⟩ (names.zip vs')∧af B.w.params F vs' args')
  (h:XS B n sc loc H body fun f' zz H'=>∃ a,Cg f' a∧Q a H'):aJ B (n + 1) (.ref f) args H Q:=fun A hp F s vs hA R hv=>by
 obtain ⟨o,ho,hd⟩:=hf.at_
 obtain ⟨vs',hbind,hv'⟩:=hb hp F s vs R hv
 obtain ⟨r1,r2,r3⟩:=hA
 refine codeAny_call_function (by lia) (R.good.X _ _ ho) hd hf.co hf.gen hf.body (codeRec_of R.good.X hf.code) (hbind _ _ _ _ ?_)
 rw [hf.cl]
 have hkind:∀ x ∈ names.zip vs',fd.scope.names.lookup x.1 = some .local ∨ (fd.scope.names.lookup x.1 = some .cell∧((cellsFrom (s.heap.objs.size + 1) fd.scope.names []).lookup x.1).isSome = true):=fun x hx=>by
  rcases en.kinds x.1 (List.of_mem_zip hx).1 with q | q
  ·exact .inl q
  ·exact .inr ⟨q,cellsFrom_some _ _ _ (.inl q)⟩
 refine wpAny_newFunctionEnv_cells hf.kind hkind fun env he s' x=>?_
 subst he
 obtain ⟨h₁,tk,rfl,hkeep⟩:=x.done
 obtain ⟨f1,f2,f3⟩:=R.fresh
 refine ⟨R.good.T.nolimit.keeps hkeep,codeAny_func ?_⟩
 have RF:RelF B hp F sc (newEnv fd.scope s.heap.objs.size fd.globals (cellsFrom (s.heap.objs.size + 1) fd.scope.names []) (fd.qualname++".<locals>.") (some f) fd.code none fd.builtins) loc H { s with heap:=h₁,toks:=tk }:=by
  refine ⟨R.ext hkeep,hf.kind,hf.gl,hf.bi,en.sc,fun y hy=>(en.lk y hy).elim .inl fun q=>.inr (.inl q),en.ln,en.db,f3,f1,f2,fun y c hc=>?_,_,x.toInCall.ns,fun y a hy=>?_⟩
  ·obtain ⟨oc,hoc,hdc⟩:=x.cell y c hc
   have hab:@LT.lt Nat _ s.heap.objs.size c:=x.above y c (mem_of_lookup hc)
   refine ⟨⟨oc,hoc⟩,fun hk=>?_,fun e=>?_⟩
   ·obtain ⟨o',ho'⟩:=R.there hk
    have:@LT.lt Nat _ c s.heap.objs.size:=Heap.lt_size ho'
    lia
   ·have e':c = s.heap.objs.size:=e
    rw [e'] at hab; exact Nat.lt_irrefl _ hab
  have hz:=en.at_ y a hy
  have hm:=dm hz
  rcases en.kinds y hm with q | q
  ·exact .inl ⟨q,uz (k:=Env.kindOf (newEnv fd.scope s.heap.objs.size fd.globals (cellsFrom (s.heap.objs.size + 1) fd.scope.names []) (fd.qualname++".<locals>.") (some f) fd.code none fd.builtins)) q en.nd hv' hz⟩
  ·have q':(newEnv fd.scope s.heap.objs.size fd.globals (cellsFrom (s.heap.objs.size + 1) fd.scope.names []) (fd.qualname++".<locals>.") (some f) fd.code none fd.builtins).kindOf y = some .cell:=q
   obtain ⟨v,e1,e2⟩:=um (k:=Env.kindOf (newEnv fd.scope s.heap.objs.size fd.globals (cellsFrom (s.heap.objs.size + 1) fd.scope.names []) (fd.qualname++".<locals>.") (some f) fd.code none fd.builtins)) (m:=fun zz=>none) (by rw [q']; decide) en.nd hv' hz
   obtain ⟨c,hc⟩:=Option.isSome_iff_exists.mp (cellsFrom_some (x:=y) fd.scope.names (s.heap.objs.size + 1) [] (.inl q))
   obtain ⟨oc,hoc,hdc⟩:=x.cell y c hc
   have hab:@LT.lt Nat _ s.heap.objs.size c:=x.above y c (mem_of_lookup hc)
   refine .inr ⟨.inl q',c,oc,v,hc,hoc,by rw [hdc,e1],e2,?_,fun hk=>?_⟩
   ·show c ≠ s.heap.objs.size
    intro e; rw [e] at hab; exact Nat.lt_irrefl _ hab
   ·obtain ⟨o',ho'⟩:=R.there hk
    have:@LT.lt Nat _ c s.heap.objs.size:=Heap.lt_size ho'
    lia
 refine wpAny_mono (h (A.deeper _) hp F _ _ ⟨r1,by show A.depth + 1 + 2 * n < _; lia,by show A.units + 3 + 10 * n + 200 < _; lia⟩ RF) ?_ fun zz zz x=>x.elim
 rintro fl s2 ⟨F',f',loc',H',g,R2,hfl,a,hr,q⟩
 refine ⟨F',a,H',g,R2.g,?_,q⟩
 cases fl <;> cases f' <;> first | exact hfl.elim | (simp only [Cg] at hr; subst hr; first | exact hfl | (simp only [AVR]))
theorem RelG.new2 {hp:Heap} {F:FF} {s:Shared} {C:Addr} {tk:Nat} (R:RelG B hp F H s) :
  RelG B hp (F.more (s.heap.objs.size + 1,s.heap.objs.size)) (H++[.inst C []]) { s with heap:=(s.heap.push emptyDict).push (instObj C s.heap.objs.size),toks:=tk }:=by
 obtain ⟨f1,f2,f3⟩:=R.fresh
 have k:∀ b o',s.heap.get? b = some o'→((s.heap.push emptyDict).push (instObj C s.heap.objs.size)).get? b = some o':=fun b o' e=>Heap.get?_push_of_some _ (Heap.get?_push_of_some _ e)
 have lt:∀ b o',s.heap.get? b = some o'→b ≠ s.heap.objs.size + 1:=fun b o' e q=>by
  have:@LT.lt Nat _ b s.heap.objs.size:=Heap.lt_size e
  rw [q] at this
  exact absurd this (Nat.not_lt.mpr (Nat.le_succ _))
 have g1:F.f (s.heap.objs.size + 1) = none:=by
  cases q:F.f (s.heap.objs.size + 1) with
  | none=>rfl
  | some o=>exact absurd rfl (lt _ _ (R.fr _ _ q))
 have g2:s.heap.objs.size + 1 ∉ au F.io:=fun q=>by
  obtain ⟨o,e⟩:=R.there q; exact absurd rfl (lt _ _ e)
 have g3:hp.get? (s.heap.objs.size + 1) = none:=by
  cases q:hp.get? (s.heap.objs.size + 1) with
  | none=>rfl
  | some o=>exact absurd rfl (lt _ _ (R.kp _ _ q))
 have hne:(s.heap.objs.size:Addr) ≠ s.heap.objs.size + 1:=Nat.ne_of_lt (Nat.lt_succ_self _)
 have hk:au (F.io++[(s.heap.objs.size + 1,s.heap.objs.size)]) = au F.io++[s.heap.objs.size + 1,s.heap.objs.size]:=by
  rw [b8]; simp [au,du,hne]
 have hd:((s.heap.push emptyDict).push (instObj C s.heap.objs.size)).get? s.heap.objs.size = some emptyDict:=Heap.get?_push_of_some _ (Heap.get?_push_size _ rfl)
 have hx:((s.heap.push emptyDict).push (instObj C s.heap.objs.size)).get? (s.heap.objs.size + 1) = some (instObj C s.heap.objs.size):=by
  have:=Heap.get?_push_size (s.heap.push emptyDict) (o:=instObj C s.heap.objs.size) rfl
  rwa [Heap.size_push] at this
 refine ⟨fun a o' e=>k _ _ (R.fr a o' e),fun a ha=>?_,R.fK,?_,fun i p c' h1 h2=>?_,?_,fun a ha=>?_,fun b o' e=>k _ _ (R.kp b o' e),R.gd,R.eg,R.ed,R.eo⟩
 ·have ha':a ∈ au (F.io++[(s.heap.objs.size + 1,s.heap.objs.size)]):=ha
  rw [hk] at ha'
  rcases List.mem_append.mp ha' with ha | ha
  ·exact R.fk a ha
  ·rcases List.mem_cons.mp ha with rfl | ha
   ·exact g1
   ·rw [List.mem_singleton] at ha; subst ha; exact f1
 ·show (F.io++[_]).length = (H++[_]).length
  rw [List.length_append,List.length_append,R.hl]; rfl
 ·have h1':(F.io++[(s.heap.objs.size + 1,s.heap.objs.size)])[i]? = some p:=h1
  by_cases hi:i < F.io.length
  ·rw [List.getElem?_append_left hi] at h1'
   rw [List.getElem?_append_left (R.hl ▸ hi)] at h2
   exact ((R.hc i p c' h1' h2).heap fun b o' zz e=>k b o' e).mono FF.more_le
  ·have e:i = F.io.length:=by
    have:=(List.getElem?_eq_some_iff.mp h1').1
    rw [List.length_append,List.length_singleton] at this
    lia
   subst e
   rw [List.getElem?_append_right (Nat.le_refl _),Nat.sub_self] at h1'
   rw [R.hl,List.getElem?_append_right (Nat.le_refl _),Nat.sub_self] at h2
   cases h1'; cases h2
   exact ⟨hne,[],0,hx,hd,by simp only [aX]⟩
 ·show (au (F.io++[_])).Nodup
  rw [hk]
  refine List.nodup_append.mpr ⟨R.hn,by simp,fun x hx y hy e=>?_⟩
  subst e
  rcases List.mem_cons.mp hy with rfl | hy
  ·exact g2 hx
  ·rw [List.mem_singleton] at hy; subst hy; exact f2 hx
 ·have ha':a ∈ au (F.io++[(s.heap.objs.size + 1,s.heap.objs.size)]):=ha
  rw [hk] at ha'
  rcases List.mem_append.mp ha' with ha | ha
  ·exact R.hk a ha
  ·rcases List.mem_cons.mp ha with rfl | ha
   ·exact ⟨g3,Nat.le_succ_of_le R.size⟩
   ·rw [List.mem_singleton] at ha; subst ha; exact ⟨f3,R.size⟩
theorem qV {C fI:Addr} {Q:AV→HS→Prop} (hm:makesIn B.K C = true) (hi:findIn B.K (.ref C) "__init__" = some (some (.ref fI))) (hft:typeIn B.K (.ref fI) = some (.type "function"))
  (h:aJ B n (.ref fI) (.cell H.length :: args) (H++[.inst C []]) fun r H'=>r = .none∧Q (.cell H.length) H'):aJ B (n + 1) (.ref C) args H Q:=fun A hp F s vs hA R hv=>by
 obtain ⟨r1,r2,r3⟩:=hA
 have X:=R.good.X
 have R2:=R.new2 (C:=C) (tk:=s.toks)
 have hA2:dQ n (A.under (.builtin "type.__call__" ⟨.ref C :: vs,[]⟩)):=by
  refine ⟨r1,?_,?_⟩
  ·show A.depth + 1 + 2 * n < _
   lia
  ·show A.units + 1 + 10 * n + 200 < _
   lia
 have hv2:af B.w.params (F.more (s.heap.objs.size + 1,s.heap.objs.size)) (.ref (s.heap.objs.size + 1) :: vs) (.cell H.length :: args) :=
  .cons (by rw [← R.hl]; exact dK) (hv.mono FF.more_le)
 obtain ⟨hh,g,d,t,os⟩:=s
 refine make_core (makes_of X hm) (looks_findIn X hi) (fun self=>bind_fn X self hft) (.inl rfl) (codeAny_mono (h _ hp _ _ _ hA2 R2 hv2) fun r s' z=>?_)
 cases r with
 | error e=>exact z.elim
 | ok fl =>
  cases fl with
  | ret v =>
   obtain ⟨F',b,H',g',R',hb,rfl,q⟩:=z
   refine ⟨by simpa only [AVR] using hb,F',_,H',FF.more_grow.trans g',R',?_,q⟩
   have:=af.mono g'.1 hv2
   simp only [af] at this
   obtain ⟨v',r',e1,e2,e3⟩:=this
   cases e1
   exact e2
  | _=>exact z.elim
end
end
section
set_option bootstrap.genMatcherCode false
section
variable {B:Base} {n:Nat} {H:HS} {i:Nat} {C f:Addr} {fs:List (Str × AV)} {x:Str} {sc:List (Str × NameKind)} {loc:Loc}
theorem RD {Q:Value × List AV→HS→Prop} (hi:H[i]? = some (.inst C fs)) (hg:plainGet B.K C x = true) (hf:findIn B.K (.ref C) x = some (some (.ref f))) (ht:isFn B.K (.ref f) = true) (hl:o9 x fs = none)
  (h:Q (.ref f,[.cell i]) H):ee B n (.cell i) x H Q:=fun pl A hp F s vs hA R hv=>by
 refine E1 hv fun v hv1=>?_
 refine R.cell hv1 hi fun p hpi hc=>?_; obtain ⟨q,es,m,e1,e2,e3⟩:=hc
 obtain ⟨_,⟨w,a',g1,g2,g3⟩ | ⟨g1,g2⟩⟩:=mf (x:=x) e3
 ·rw [hl] at g2; cases g2
 ·refine method_fn R.good.X (dp e1 e2) (plainGet_of hg).1 (plainGet_of hg).2 hf (beq_iff_eq.mp ht) (by show (lookIn x (dictOf es m)).map _ = _; rw [lookIn_dict,g1]; rfl) ?_
  exact ⟨F,(.ref f,[.cell i]),H,.refl,R,⟨rfl,one (tZ hpi)⟩,h⟩
theorem wK {o value:Expr} {attr:Str} {ap pos:Pos} {Q:AF→Loc→HS→Prop} (h:EV B n sc loc H value fun v H1=>EV B n sc loc H1 o fun ov H2=>jf B n ov v attr H2 fun zz H3=>Q .next loc H3)
  (hs:autoParam (∀ env,swapsWith value (some (.Attribute o attr ap)) pos.line env = pure false) aW):XO B n sc loc H (.Assign [.Attribute o attr ap] value pos) Q:=fun A hp F s env hA R =>
 plainObj_wpAny_Assign_Attribute (FV.then hA R h fun F1 v av H1 s1 g1 R1 hv q1=>FV.then hA R1 q1 fun F2 ov oa H2 s2 g2 R2 ho q2=>by
  refine GW.then hA R2 (two ho (hv.mono g2.1)) q2 fun F3 u u' H3 s3 g3 R3 zz q3=>?_
  exact ⟨F3,.next,loc,H3,(g1.trans g2).trans g3,R3,trivial,q3⟩) (hs env)
noncomputable abbrev mo (B:Base) (n:Nat) (o i v:AV) (H:HS) (Q:Unit→HS→Prop):Prop:=GW B UR n H [o,i,v] (fun vs=>setItem (a0 vs) (a1 vs) (a2 vs)) Q
theorem xT {o ix value:Expr} {ap pos:Pos} {Q:AF→Loc→HS→Prop} (h:EV B n sc loc H value fun v H1=>EV B n sc loc H1 o fun ov H2=>EV B n sc loc H2 ix fun iv H3=>mo B n ov iv v H3 fun zz H4=>Q .next loc H4)
  (hs:autoParam (∀ env,swapsWith value (some (.Subscript o ix ap)) pos.line env = pure false) aW):XO B n sc loc H (.Assign [.Subscript o ix ap] value pos) Q:=fun A hp F s env hA R =>
 wpAny_Assign_Subscript (FV.then hA R h fun F1 v av H1 s1 g1 R1 hv q1=>FV.then hA R1 q1 fun F2 ov oa H2 s2 g2 R2 ho q2=>FV.then hA R2 q2 fun F3 iv ia H3 s3 g3 R3 hi q3=>by
  refine GW.then hA R3 (WA (ho.mono g3.1) hi ((hv.mono g2.1).mono g3.1)) q3 fun F4 u u' H4 s4 g4 R4 zz q4=>?_
  exact ⟨F4,.next,loc,H4,((g1.trans g2).trans g3).trans g4,R4,trivial,q4⟩) (hs env)
inductive WhI (B:Base) (hp:Heap) (F:FF) (sc:List (Str × NameKind)) (env:Env) (P:Nat→Loc→HS→Prop) (k:Nat) (s':Shared):Prop
 | mk (F':FF) (loc':Loc) (H':HS) (g:bk hp F F') (r:RelF B hp F' sc env loc' H' s') (q:P k loc' H')
theorem mQ {test:Expr} {body:List Stmt} {pos:Pos} {Q:AF→Loc→HS→Prop} (P:Nat→Loc→HS→Prop) (k:Nat) (h0:P k loc H)
  (step:∀ k loc H,P k loc H→TV B n sc loc H test fun c H1=>if c = true then XS B n sc loc H1 body (fun f loc' H'=>match f with
    | .next | .cont=>∃ m,m < k∧P m loc' H'
    | .brk=>Q .next loc' H'
    | .ret a=>Q (.ret a) loc' H') else Q .next loc H1):XO B n sc loc H (.While test body [] pos) Q:=fun A hp F s env hA R=>by
 refine wpAny_While (codeAny_whileLoop (WhI B hp F sc env P) (fun k s1 hI=>?_) k ⟨F,loc,H,.refl,R,h0⟩)
 obtain ⟨F1,loc1,H1,g1,R1,p1⟩:=hI
 refine wpAny_mono (FV.then hA R1 (step k loc1 H1 p1) fun F2 c c' H2 s2 g2 R2 e q2=>?_) (fun zz zz x=>x) fun zz zz x=>x.elim
 have e':c = c':=e
 subst e'
 cases c with
 | true =>
  rw [if_pos rfl] at q2 ⊢
  refine wpAny_mono (SV.then hA R2 q2 fun F3 f f' loc3 H3 s3 g3 R3 hf q3=>?_) (fun zz zz x=>x) fun zz zz x=>x.elim
  have g:=(g1.trans g2).trans g3
  revert q3
  exact hf.e (fun ⟨m,hm,p⟩=>⟨m,hm,F3,loc3,H3,g,R3,p⟩) (fun q3=>⟨F3,.next,loc3,H3,g,R3,trivial,q3⟩) (fun ⟨m,hm,p⟩=>⟨m,hm,F3,loc3,H3,g,R3,p⟩) fun v a hf q3=>⟨F3,.ret a,loc3,H3,g,R3,hf,q3⟩
 | false =>
  rw [if_neg Bool.false_ne_true] at q2 ⊢
  exact wpAny_execs_nil ⟨F2,.next,loc1,H2,g1.trans g2,R2,trivial,q2⟩
inductive WidenR (B:Base) (hp:Heap) (F:FF) (sc:List (Str × NameKind)) (env:Env) (loc:Loc) (H:HS) (s:Shared):Prop
 | mk (hp2:Heap) (R:RelF B hp2 F sc env loc H s) (into:∀ b o,s.heap.get? b = some o→b ≠ env.locals→b ∉ au F.io→hp2.get? b = some o) (sub:∀ b o,hp2.get? b = some o→s.heap.get? b = some o)
  (back:∀ F' loc' H' s',bk hp2 F F'→RelF B hp2 F' sc env loc' H' s'→bk hp F F'∧RelF B hp F' sc env loc' H' s'∧(∀ b o,hp2.get? b = some o→s'.heap.get? b = some o))
theorem RelF.widen {hp:Heap} {F:FF} {env:Env} {s:Shared} (R:RelF B hp F sc env loc H s):WidenR B hp F sc env loc H s:=by
 have sub:∀ b o,hp.get? b = some o→(hideAll s.heap (env.locals :: au F.io)).get? b = some o:=fun b o e=>hideAll_get _ (R.g.kp b o e) (fun q=>by
  rcases List.mem_cons.mp q with q | q
  ·rw [q,R.hL] at e; cases e
  ·rw [(R.g.hk b q).1] at e; cases e)
 refine ⟨hideAll s.heap (env.locals :: au F.io),⟨⟨R.g.fr,R.g.fk,R.g.fK,R.g.hl,R.g.hc,R.g.hn,fun k hk=>⟨hideAll_none _ (.tail _ hk),(R.g.hk k hk).2⟩,fun b o e=>of_hideAll _ e,R.g.gd.keeps sub,R.g.eg,R.g.ed,R.g.eo⟩,
  R.fk,R.eg,R.eb,R.gk,R.lk,R.nd,R.db,hideAll_none _ (.head _),R.fL,R.kL,R.cl,R.ns⟩,fun b o e h1 h2=>hideAll_get _ e (fun q=>(List.mem_cons.mp q).elim h1 h2),fun b o e=>of_hideAll _ e,fun F' loc' H' s' g R'=>?_⟩
 have none_of:∀ k,(hideAll s.heap (env.locals :: au F.io)).get? k = none→hp.get? k = none:=fun k e=>by
  cases q:hp.get? k with
  | none=>rfl
  | some o=>rw [sub _ _ q] at e; cases e
 exact ⟨⟨g.1,fun a o e=>(g.2 a o e).imp id (none_of a)⟩,⟨⟨R'.g.fr,R'.g.fk,R'.g.fK,R'.g.hl,R'.g.hc,R'.g.hn,fun k hk=>⟨none_of k (R'.g.hk k hk).1,(R'.g.hk k hk).2⟩,fun b o e=>R'.g.kp b o (sub b o e),R.g.gd,R'.g.eg,R'.g.ed,R'.g.eo⟩,
  R'.fk,R'.eg,R'.eb,R'.gk,R'.lk,R'.nd,R'.db,R.hL,R'.fL,R'.kL,R'.cl,R'.ns⟩,R'.g.kp⟩
end
end
section
set_option bootstrap.genMatcherCode false
inductive ItemR (B:Base) (hp:Heap) (F:FF) (H:HS) (s:Shared) (ps:List Addr) (J:FF→Heap→Value→Prop) (a:AV) (r:Option Value) (s':Shared):Prop
 | mk (v:Value) (F':FF) (e:r = some v) (g:bk hp F F') (io:F'.io = F.io) (R:RelG B hp F' H s') (P:tt hp F' ps) (j:J F' s'.heap v) (hv:AVR B.w.params F' v a) (k:∀ b o,b ∉ ps→s.heap.get? b = some o→s'.heap.get? b = some o)
inductive GoR (B:Base) (hp:Heap) (F:FF) (H:HS) (s:Shared) (ps:List Addr) (q:Heap→Prop) (s':Shared):Prop
 | mk (R:RelG B hp F H s') (i:q s'.heap) (k:∀ b o,b ∉ ps→s.heap.get? b = some o→s'.heap.get? b = some o)
structure Src (B:Base) (tg:Expr) (it:Value) (ps:List Addr) (I:Nat→FF→Heap→Prop) (J:Nat→FF→Heap→Value→Prop) (nxt:Nat→HS→Option (Option AV)):Prop where
 keep:∀ i F F' h h',I i F h→FLe F F'→(∀ b ∈ ps,∀ o,h.get? b = some o→h'.get? b = some o)→I i F' h'
 live:∀ i F h,I i F h→∀ b ∈ ps,∃ o,h.get? b = some o
 self_:∀ A (i:Nat) F (s:Shared) (Q:Value→Shared→Prop),I i F s.heap→Q it s→wpAny (model B.prog B.w) A (pyIter it) Q NoE s
 item:∀ A hp F H s i a,A.handled = none→RelG B hp F H s→tt hp F ps→I i F s.heap→nxt i H = some (some a) →
  wpAny (model B.prog B.w) A (pyNext it) (ItemR B hp F H s ps (J i) a) NoE s
 go:∀ A hp F H s i v,RelG B hp F H s→tt hp F ps→J i F s.heap v →
  wpAny (model B.prog B.w) A (letOwnedTupleGo tg it v) (fun zz=>GoR B hp F H s ps (I (i + 1) F)) NoE s
 done:∀ A hp F H s i,A.handled = none→RelG B hp F H s→tt hp F ps→I i F s.heap→nxt i H = some none →
  wpAny (model B.prog B.w) A (pyNext it) (fun r=>GoR B hp F H s ps (fun zz=>r = none)) NoE s
theorem RelG.priv {B:Base} {hp:Heap} {F:FF} {H:HS} {s:Shared} {ps:List Addr} {h':Heap} {tk:Nat} (R:RelG B hp F H s) (P:tt hp F ps) (k:∀ b o,b ∉ ps→s.heap.get? b = some o→h'.get? b = some o) :
  RelG B hp F H { s with heap:=h',toks:=tk }:=by
 have kF:∀ b o,F.f b = some o→b ∉ ps:=fun b o e q=>by rw [(P b q).2.1] at e; cases e
 have kK:∀ b,b ∈ au F.io→b ∉ ps:=fun b hb q=>(P b q).1 hb
 have kH:∀ b o,hp.get? b = some o→b ∉ ps:=fun b o e q=>by rw [(P b q).2.2] at e; cases e
 exact ⟨fun a o e=>k _ _ (kF _ _ e) (R.fr a o e),R.fk,R.fK,R.hl,fun i p c h1 h2=>(R.hc i p c h1 h2).heap fun b o hb e=>k b o (kK b (fg (List.mem_of_getElem? h1) hb)) e,R.hn,R.hk,
  fun b o e=>k _ _ (kH _ _ e) (R.kp b o e),R.gd,R.eg,R.ed,R.eo⟩
section
variable {B:Base} {n:Nat} {H:HS} {sc:List (Str × NameKind)} {loc:Loc}
inductive TurnR (B:Base) (hp:Heap) (F:FF) (sc:List (Str × NameKind)) (env:Env) (loc:Loc) (H:HS) (s:Shared) (ps:List Addr):Prop
 | mk (hp2:Heap) (R:RelG B hp2 F H s) (P:tt hp2 F ps)
  (back:∀ F' s',bk hp2 F F'→F'.io = F.io→RelG B hp2 F' H s'→(∀ b o,b ∉ ps→s.heap.get? b = some o→s'.heap.get? b = some o)→bk hp F F'∧RelF B hp F' sc env loc H s')
theorem RelF.turn {hp:Heap} {F:FF} {env:Env} {s:Shared} {ps:List Addr} (R:RelF B hp F sc env loc H s) (P:bw hp F env ps):TurnR B hp F sc env loc H s ps:=by
 obtain ⟨hp2,R2,P2,_,back⟩:=R.under P
 exact ⟨hp2,R2,P2,fun F' s' g zz R' zz=>back F' H s' g R'⟩
theorem RelF.above {hp:Heap} {F:FF} {env:Env} {s:Shared} {ps:List Addr} (R:RelF B hp F sc env loc H s) (h:∀ b ∈ ps,@LE.le Nat _ s.heap.objs.size b):bw hp F env ps:=by
 have no:∀ b ∈ ps,∀ o,s.heap.get? b = some o→False:=fun b hb o e=>Nat.not_lt.mpr (h b hb) (Heap.lt_size e)
 refine ⟨fun b hb=>⟨fun hk=>let ⟨o,e⟩:=R.g.there hk; no b hb o e,?_,?_⟩,fun b hb=>⟨fun e=>?_,fun x c hc e=>?_⟩⟩
 ·cases q:F.f b with
  | none=>rfl
  | some o=>exact (no b hb o (R.g.fr _ _ q)).elim
 ·cases q:hp.get? b with
  | none=>rfl
  | some o=>exact (no b hb o (R.g.kp _ _ q)).elim
 ·obtain ⟨m,⟨o,es,ep,ho,_⟩,_⟩:=R.ns
  subst e; exact no _ hb o ho
 ·obtain ⟨⟨o,ho⟩,_⟩:=R.cl x c hc
  subst e; exact no _ hb o ho
theorem RelF.fresh_priv {hp:Heap} {F:FF} {env:Env} {s:Shared} {o:Obj} {tk:Nat} (R:RelF B hp F sc env loc H s) :
  bw hp F env [s.heap.objs.size]∧RelF B hp F sc env loc H { s with heap:=s.heap.push o,toks:=tk } :=
 ⟨R.above fun b hb=>Nat.le_of_eq (List.mem_singleton.mp hb).symm,R.ext fun b o' e=>Heap.get?_push_of_some _ e⟩
inductive Tgt (sc:List (Str × NameKind)):Expr→AV→Loc→Loc→Prop
 | name {x:Str} {p:Pos} {a:AV} {l l':Loc}:(x,NameKind.local) ∈ sc→Up x a l l'→Tgt sc (.Name x p) a l l'
 | tup {elts:List Expr} {k:Nat} {p:Pos} {xs:List Str} {as:List AV} {l l':Loc}:bH elts = some xs→(∀ x ∈ xs,(x,NameKind.local) ∈ sc)→Ups xs as l l'→Tgt sc (.Tuple elts k p) (.tup as) l l'
theorem Tgt.run {hp:Heap} {F:FF} {env:Env} {s:Shared} {A:Around} {t:Expr} {a:AV} {loc':Loc} {v:Value} {Q:Unit→Shared→Prop} (h:Tgt sc t a loc loc') (hA:dQ n A) (R:RelF B hp F sc env loc H s) (hv:AVR B.w.params F v a)
  (hq:∀ s',RelF B hp F sc env loc' H s'→Q () s'):wpAny (model B.prog B.w) A (assign t env v) Q NoE s:=by
 cases h with
 | name hl hu=>exact assign_Name (R.store hu hl hv hq)
 | tup hx hl hu=>exact jb hA R hx hu hl hv hu.len hq
end
end
section
set_option bootstrap.genMatcherCode false
section
variable {B:Base} {n:Nat} {H:HS} {sc:List (Str × NameKind)} {loc:Loc}
inductive LoI (B:Base) (hp:Heap) (F:FF) (sc:List (Str × NameKind)) (env:Env) (ps:List Addr) (I:Nat→FF→Heap→Prop) (P:Nat→Loc→HS→Prop) (N k:Nat) (s':Shared):Prop
 | mk (i:Nat) (F':FF) (loc':Loc) (H':HS) (e:k = N - i) (g:bk hp F F') (r:RelF B hp F' sc env loc' H' s') (p:bw hp F' env ps) (j:I i F' s'.heap) (q:P i loc' H')
inductive EI3 (B:Base) (hp:Heap) (F:FF) (sc:List (Str × NameKind)) (env:Env) (loc:Loc) (tg:Expr) (Q:(Nat→HS→Option (Option AV))→HS→Prop) (it:Value) (s2:Shared):Prop
 | mk (F':FF) (H':HS) (ps:List Addr) (I:Nat→FF→Heap→Prop) (J:Nat→FF→Heap→Value→Prop) (nxt:Nat→HS→Option (Option AV)) (g:bk hp F F') (r:RelF B hp F' sc env loc H' s2) (p:bw hp F' env ps) (s:Src B tg it ps I J nxt) (i:I 0 F' s2.heap) (q:Q nxt H')
noncomputable def ITV (B:Base) (n:Nat) (sc:List (Str × NameKind)) (loc:Loc) (H:HS) (tg iter:Expr) (Q:(Nat→HS→Option (Option AV))→HS→Prop):Prop :=
 ∀ A hp F s env,dQ n A→RelF B hp F sc env loc H s →
  wpAny (model B.prog B.w) A (eval iter env) (fun x s1=>wpAny (model B.prog B.w) A (pyIter x) (EI3 B hp F sc env loc tg Q) NoE s1) NoE s
theorem xv {target iter:Expr} {body:List Stmt} {pos:Pos} {Q:AF→Loc→HS→Prop}
  (h:ITV B n sc loc H target iter fun nxt H1=>∃ (P:Nat→Loc→HS→Prop) (N:Nat),P 0 loc H1∧∀ i loc H,P i loc H→match nxt i H with
   | none=>False
   | some none=>Q .next loc H
   | some (some a)=>i < N∧∃ loc',Tgt sc target a loc loc'∧XS B n sc loc' H body fun f loc2 H2=>match f with
    | .next | .cont=>P (i + 1) loc2 H2
    | .brk=>Q .next loc2 H2
    | .ret a=>Q (.ret a) loc2 H2)
  (hs:autoParam (∀ env x,foldedSetIterable iter env x = pure x) bD):XO B n sc loc H (.For target iter body [] pos) Q:=fun A hp F s env hA R=>by
 refine wpAny_For (wpAny_mono (h A hp F s env hA R) (fun x s1 h1=>wpAny_mono h1 ?_ fun zz zz x=>x.elim) fun zz zz x=>x.elim) (hs env)
 rintro it s2 ⟨F0,H0,ps,I,J,nxt,g0,R0,P0,S,i0,P,N,p0,step⟩
 refine codeAny_forLoop_any (LoI B hp F sc env ps I P N) (fun k s3 hI=>?_) N ⟨0,F0,loc,H0,rfl,g0,R0,P0,i0,p0⟩
 obtain ⟨i,F3,loc3,H3,rfl,g3,R3,P3,i3,p3⟩:=hI
 have st:=step i loc3 H3 p3
 obtain ⟨hp2,R2,Pr2,back⟩:=R3.turn P3
 cases hn:nxt i H3 with
 | none=>rw [hn] at st; exact st.elim
 | some na =>
 cases na with
 | none =>
  rw [hn] at st
  refine wpAny_mono (S.done A hp2 F3 H3 s3 i hA.1 R2 Pr2 i3 hn) (fun r s4 hr=>?_) fun zz zz x=>x.elim
  obtain ⟨R4,rfl,k4⟩:=hr
  obtain ⟨_,R4'⟩:=back F3 s4 .refl rfl R4 k4
  exact wpAny_execs_nil ⟨F3,.next,loc3,H3,g3,R4',trivial,st⟩
 | some a =>
  rw [hn] at st
  refine wpAny_mono (S.item A hp2 F3 H3 s3 i a hA.1 R2 Pr2 i3 hn) (fun r s4 hr=>?_) fun zz zz x=>x.elim
  obtain ⟨v,F4,rfl,g4,io4,R4,Pr4,j4,hv,k4⟩:=hr
  refine wpAny_mono (S.go A hp2 F4 H3 s4 i v R4 Pr4 j4) (fun zz s5 hr=>?_) fun zz zz x=>x.elim
  obtain ⟨R5,i5,k5⟩:=hr
  obtain ⟨hlt,loc',tg,body⟩:=st
  obtain ⟨g5,R5'⟩:=back F4 s5 g4 io4 R5 fun b o hb e=>k5 b o hb (k4 b o hb e)
  have P5:bw hp F4 env ps:=⟨fun b hb=>⟨(Pr4 b hb).1,(Pr4 b hb).2.1,(P3.1 b hb).2.2⟩,P3.2⟩
  obtain ⟨hp3,R6,into3,sub3,back3⟩:=R5'.widen
  refine wpAny_mono (tg.run (Q:=fun zz s6=>RelF B hp3 F4 sc env loc' H3 s6) hA R6 hv fun s6 R7=>R7) (fun zz s6 R7=>?_) fun zz zz x=>x.elim
  refine wpAny_mono (SV.then hA R7 body fun F7 f f' loc7 H7 s7 g7 R7' hf q7=>?_) (fun zz zz x=>x) fun zz zz x=>x.elim
  obtain ⟨g8,R8,k8⟩:=back3 F7 loc7 H7 s7 g7 R7'
  have g:=(g3.trans g5).trans g8
  have live:∀ b ∈ ps,∀ o,s5.heap.get? b = some o→hp3.get? b = some o:=fun b hb o e=>into3 b o e (P5.2 b hb).1 (P5.1 b hb).1
  have i8:I (i + 1) F7 s7.heap:=S.keep _ _ _ _ _ i5 g8.1 fun b hb o e=>k8 b o (live b hb o e)
  have P8a:tt hp F7 ps:=fun b hb=>by
   obtain ⟨o,e⟩:=S.live _ _ _ i5 b hb
   have e3:=live b hb o e
   refine ⟨fun hk=>?_,?_,(P3.1 b hb).2.2⟩
   ·rw [(R7'.g.hk b hk).1] at e3; cases e3
   ·cases q:F7.f b with
    | none=>rfl
    | some o' =>
     rcases g7.2 _ _ q with z | z
     ·rw [(P5.1 b hb).2.1] at z; cases z
     ·rw [z] at e3; cases e3
  have P8:bw hp F7 env ps:=⟨P8a,P3.2⟩
  have go:∀ q,P (i + 1) loc7 H7→q = N - i→∃ m,m < q∧LoI B hp F sc env ps I P N m s7:=fun q p e=>⟨N - (i + 1),e ▸ Nat.sub_lt_sub_left hlt (Nat.lt_succ_self i),i + 1,F7,loc7,H7,rfl,g,R8,P8,i8,p⟩
  revert q7
  exact hf.e (fun q7=>go _ q7 rfl) (fun q7=>⟨F7,.next,loc7,H7,g,R8,trivial,q7⟩) (fun q7=>go _ q7 rfl) fun v a hf q7=>⟨F7,.ret a,loc7,H7,g,R8,hf,q7⟩
end
end
section
set_option bootstrap.genMatcherCode false
theorem jk {B:Base} {A:Around} {s:Shared} {it v:Value} {t:Expr} {Q:Unit→Shared→Prop} {r:Addr} {o:Obj} {T:String} {vs:Array Value} (hit:it = .ref r) (ho:s.heap.get? r = some o) (hc:o.cls = .type T) (hd:o.data = .fields vs)
  (hn:(["enumerate","zip","dict_itemiterator","dict_reverseitemiterator","odict_iterator","itertools.zip_longest","itertools.pairwise"]:List String).contains T = false) (h:Q () s) :
  wpAny (model B.prog B.w) A (letOwnedTupleGo t it v) Q NoE s:=by
 subst hit
 have k:wpAny (model B.prog B.w) A (letOwnedTupleGo (.Tuple [] default default) (.ref r) v) Q NoE s:=by
  cases v with
  | ref a =>
   refine wpAny_bind (wpAny_load ho ?_)
   rw [hc,hd]
   dsimp only
   rw [hn]
   exact wpAny_pure h
  | _=>exact wpAny_pure h
 cases t <;> first | exact wpAny_pure h | exact k
section
variable {B:Base} {n:Nat} {H:HS} {sc:List (Str × NameKind)} {loc:Loc}
noncomputable def ut (xs:List AV) (i:Nat) (_:HS):Option (Option AV):=some xs[i]?
theorem FX {tg:Expr} {it:Addr} {xs:List AV}:Src B tg (.ref it) [it] (fun i F h=>∃ t,AVR B.w.params F (.ref t) (.tup xs)∧h.IsTupleIter it t i) (fun i F h zz=>∃ t,AVR B.w.params F (.ref t) (.tup xs)∧h.IsTupleIter it t (i + 1)) (ut xs) where
 keep:=fun i F F' h h' ⟨l,e,o,ho,r⟩ g k=>⟨l,e.mono g,o,k it (.head _) _ ho,r⟩
 live:=fun i F h ⟨l,e,o,ho,r⟩ b hb=>by rw [List.mem_singleton] at hb; subst hb; exact ⟨o,ho⟩
 self_:=fun A i F s Q ⟨l,e,hit⟩ hq=>by
  obtain ⟨o,ho,hc,hd⟩:=hit
  have hT:s.TypeIs (.ref it) "tuple_iterator":=⟨o,ho,hc⟩
  refine wpAny_pyIter_slot hT PySem.F.slot_tuple_iterator_iter (wpAny_call_entry PySem.F.slot_tuple_iterator_iter hT PySem.F.entry_tuple_iterator_iter ?_ (PySem.F.args_tuple_iterator_iter_1 _))
  show wpAny _ _ (ret (.ref it)) _ _ s
  exact wpAny_pure ⟨_,rfl,"tuple_iterator",_,hT,PySem.F.slot_tuple_iterator_next.lookup,hq⟩
 go:=fun A hp F H s i v R P ⟨l,e,o,ho,hc,hd⟩=>jk rfl ho hc hd (by decide) ⟨R,⟨l,e,o,ho,hc,hd⟩,fun zz zz zz e=>e⟩
 item:=fun A hp F H s i a hh R P ⟨l,e,hit⟩ hn=>by
  obtain ⟨t,items,he,⟨o,e1,e2,m,e3⟩,e4⟩:=e.tup R.fr
  cases he
  unfold ut at hn
  obtain ⟨v,hv,hr⟩:=e4.at i (Option.some.inj hn)
  refine wpAny_pyNext_tuple_item (items:=⟨items⟩) (x:=v) hit ⟨o,e1,e2,m,e3⟩ (by simpa using hv) fun h' hit' hs=>?_
  have k:∀ b o,b ∉ [it]→s.heap.get? b = some o→h'.get? b = some o:=fun b o hb e=>(hs.2 b (by simpa using hb)).trans e
  exact ⟨v,F,rfl,.refl,rfl,R.priv P k,P,⟨_,e,hit'⟩,hr,k⟩
 done:=fun A hp F H s i hh R P ⟨l,e,hit⟩ hn=>by
  obtain ⟨t,items,he,⟨o,e1,e2,m,e3⟩,e4⟩:=e.tup R.fr
  cases he
  unfold ut at hn
  have hx:=Option.some.inj hn
  refine wpAny_pyNext_tuple_end (items:=⟨items⟩) hh hit ⟨o,e1,e2,m,e3⟩ (by
   have:=e4.len
   rw [List.getElem?_eq_none_iff] at hx
   simp; lia) fun h' hs=>?_
  have k:∀ b o,b ∉ [it]→s.heap.get? b = some o→h'.get? b = some o:=fun b o hb e=>hs b o (by simpa using hb) e
  exact ⟨R.priv P k,rfl,k⟩
theorem Pz {tg iter:Expr} {Q:(Nat→HS→Option (Option AV))→HS→Prop} (h:EV B n sc loc H iter fun a H1=>∃ xs,a = .tup xs∧Q (ut xs) H1):ITV B n sc loc H tg iter Q:=fun A hp F s env hA R =>
 FV.then hA R h fun F1 v a H1 s1 g1 R1 ha q1=>by
  obtain ⟨xs,rfl,q⟩:=q1
  obtain ⟨t,items,rfl,⟨o,e1,e2,m,e3⟩,e4⟩:=ha.tup R1.g.fr
  refine wpAny_pyIter_tuple (items:=⟨items⟩) ⟨o,e1,e2,m,e3⟩ ?_
  obtain ⟨P,R2⟩:=R1.fresh_priv (o:={ cls:=.type "tuple_iterator",data:=.fields #[.ref t,.int 0 0] }) (tk:=s1.toks)
  exact ⟨F1,H1,_,_,_,_,g1,R2,P,FX (xs:=xs),⟨t,ha,_,Heap.get?_push_size _ rfl,rfl,rfl⟩,q⟩
noncomputable def qB (xs:List Nat) (i:Nat) (_:HS):Option (Option AV):=some (xs[i]?.map fun c=>.str [c])
noncomputable def StI (it:Addr) (xs:List Nat) (i:Nat) (h:Heap):Prop:=∃ T t,(T = "str_ascii_iterator" ∨ T = "str_iterator")∧h.IsStrIter it T ⟨xs.toArray⟩ t i
theorem Fa {tg:Expr} {it:Addr} {xs:List Nat}:Src B tg (.ref it) [it] (fun i zz h=>StI it xs i h) (fun i zz h zz=>StI it xs (i + 1) h) (qB xs) where
 keep:=fun i F F' h h' ⟨T,t,e,o,ho,r⟩ g k=>⟨T,t,e,o,k it (.head _) _ ho,r⟩
 live:=fun i F h ⟨T,t,e,o,ho,r⟩ b hb=>by rw [List.mem_singleton] at hb; subst hb; exact ⟨o,ho⟩
 self_:=fun A i F s Q ⟨T,t,e,hit⟩ hq=>by
  rcases e with rfl | rfl
  ·exact wpAny_pyIter_striter_ascii hit hq
  ·exact wpAny_pyIter_striter_wide hit hq
 go:=fun A hp F H s i v R P ⟨T,u,e,o,ho,hc,hd⟩=>jk rfl ho hc hd (by rcases e with rfl | rfl <;> decide) ⟨R,⟨T,u,e,o,ho,hc,hd⟩,fun zz zz zz e=>e⟩
 item:=fun A hp F H s i a hh R P ⟨T,t,e,hit⟩ hn=>by
  unfold qB at hn
  obtain ⟨c,hc,rfl⟩:=Option.map_eq_some_iff.mp (Option.some.inj hn)
  have hx:(⟨xs.toArray⟩:Str).cps[i]? = some c:=by simpa using hc
  have fin:∀ T',(T' = "str_ascii_iterator" ∨ T' = "str_iterator")→∀ h',h'.IsStrIter it T' ⟨xs.toArray⟩ t (i + 1)→Heap.SameBut it s.heap h'→ItemR B hp F H s [it] (fun zz h zz=>StI it xs (i + 1) h) (.str [c]) (some (.str ⟨#[c]⟩ s.toks)) { s with heap:=h',toks:=s.toks + 1 }:=fun T' hT h' hit' hs=>by
   have k:∀ b o,b ∉ [it]→s.heap.get? b = some o→h'.get? b = some o:=fun b o hb e=>(hs.2 b (by simpa using hb)).trans e
   exact ⟨_,F,rfl,.refl,rfl,R.priv P k,P,⟨T',t,hT,hit'⟩,by simp only [AVR]; exact ⟨s.toks,rfl⟩,k⟩
  rcases e with rfl | rfl
  ·exact wpAny_pyNext_ascii_item hit hx (fin _ (.inl rfl))
  ·exact wpAny_pyNext_wide_item hit hx (fin _ (.inr rfl))
 done:=fun A hp F H s i hh R P ⟨T,t,e,hit⟩ hn=>by
  unfold qB at hn
  have hc:=Option.some.inj hn
  have hx:(⟨xs.toArray⟩:Str).cps[i]? = none:=by simpa using hc
  have fin:∀ h',Heap.ExtBut it s.heap h'→GoR B hp F H s [it] (fun zz=>(none:Option Value) = none) { s with heap:=h' }:=fun h' hs=>by
   have k:∀ b o,b ∉ [it]→s.heap.get? b = some o→h'.get? b = some o:=fun b o hb e=>hs b o (by simpa using hb) e
   exact ⟨R.priv P k,rfl,k⟩
  rcases e with rfl | rfl
  ·exact wpAny_pyNext_ascii_end hh hit hx fin
  ·exact wpAny_pyNext_wide_end hh hit hx fin
theorem h9 {tg iter:Expr} {Q:(Nat→HS→Option (Option AV))→HS→Prop} (h:EV B n sc loc H iter fun a H1=>∃ xs,a = .str xs∧Q (qB xs) H1):ITV B n sc loc H tg iter Q:=fun A hp F s env hA R =>
 FV.then hA R h fun F1 v a H1 s1 g1 R1 ha q1=>by
  obtain ⟨xs,rfl,q⟩:=q1
  refine Es ha fun t=>?_
  refine wpAny_pyIter_strU ?_
  obtain ⟨P,R2⟩:=R1.fresh_priv (o:={ cls:=.type (strIterType ⟨xs.toArray⟩),data:=.fields #[.str ⟨xs.toArray⟩ t,.int 0 0] }) (tk:=s1.toks)
  refine ⟨F1,H1,_,_,_,_,g1,R2,P,Fa (xs:=xs),⟨_,t,?_,_,Heap.get?_push_size _ rfl,rfl,rfl⟩,q⟩
  unfold strIterType
  split <;> simp
noncomputable def aG (a c:Int) (k:Nat) (i:Nat) (_:HS):Option (Option AV):=some (if i < k then some (.int (a + i * c)) else none)
theorem src_range {tg:Expr} {it:Addr} {a c:Int} {k:Nat}:Src B tg (.ref it) [it] (fun i F h=>i≤k∧IsRangeIter h it (a + i * c) ((k:Int) - i) c) (fun i F h zz=>i + 1≤k∧IsRangeIter h it (a + (i + 1:Nat) * c) ((k:Int) - (i + 1:Nat)) c) (aG a c k) where
 keep:=fun i F F' h h' ⟨e,ho⟩ g kk=>⟨e,kk it (.head _) _ ho⟩
 live:=fun i F h ⟨e,ho⟩ b hb=>by rw [List.mem_singleton] at hb; subst hb; exact ⟨_,ho⟩
 self_:=fun A i F s Q ⟨e,hit⟩ hq=>wpAny_pyIter_rangeiter hit hq
 go:=fun A hp F H s i v R P ⟨e,ho⟩=>jk rfl ho rfl rfl (by decide) ⟨R,⟨e,ho⟩,fun zz zz zz e=>e⟩
 item:=fun A hp F H s i x hh R P ⟨e,hit⟩ hn=>by
  unfold aG at hn
  have hn:=Option.some.inj hn
  by_cases hlt:i < k
  ·rw [if_pos hlt] at hn
   cases hn
   refine wpAny_pyNext_range_item hit (by lia) fun h' hit' hs=>?_
   have kk:∀ b o,b ∉ [it]→s.heap.get? b = some o→h'.get? b = some o:=fun b o hb e=>(hs.2 b (by simpa using hb)).trans e
   refine ⟨_,F,rfl,.refl,rfl,R.priv P kk,P,⟨hlt,?_⟩,ax,kk⟩
   have e1:a + ((i + 1:Nat):Int) * c = a + i * c + c:=by rw [Int.natCast_add,Int.add_mul]; simp; lia
   have e2:(k:Int) - ((i + 1:Nat):Int) = (k:Int) - i - 1:=by lia
   rw [e1,e2]; exact hit'
  ·rw [if_neg hlt] at hn; cases hn
 done:=fun A hp F H s i hh R P ⟨e,hit⟩ hn=>by
  unfold aG at hn
  have hn:=Option.some.inj hn
  by_cases hlt:i < k
  ·rw [if_pos hlt] at hn; cases hn
  ·refine wpAny_pyNext_range_end hh hit (by lia) fun h' hs=>?_
   have kk:∀ b o,b ∉ [it]→s.heap.get? b = some o→h'.get? b = some o:=fun b o hb e=>hs b o (by simpa using hb) e
   exact ⟨R.priv P kk,rfl,kk⟩
theorem cJ {tg iter:Expr} {Q:(Nat→HS→Option (Option AV))→HS→Prop} (h:EV B n sc loc H iter fun v H1=>∃ a b c,v = .rng a b c∧Builtin.Range.small a b c = true∧0≤Builtin.Range.rangeSize a b c∧Q (aG a c (Builtin.Range.rangeSize a b c).toNat) H1):ITV B n sc loc H tg iter Q:=fun A hp F s env hA R =>
 FV.then hA R h fun F1 v a H1 s1 g1 R1 ha q1=>by
  obtain ⟨a,b,c,rfl,hsm,h0,q⟩:=q1
  simp only [VR,AVR] at ha
  obtain ⟨r,t,u,w,rfl,e⟩:=ha
  refine wpAny_pyIter_range (R1.g.fr _ _ e) hsm ?_
  obtain ⟨P,R2⟩:=R1.fresh_priv (o:={ cls:=.type "range_iterator",data:=.fields #[rawInt a,rawInt (Builtin.Range.rangeSize a b c),rawInt c] }) (tk:=s1.toks)
  refine ⟨F1,H1,_,_,_,_,g1,R2,P,src_range (a:=a) (c:=c) (k:=(Builtin.Range.rangeSize a b c).toNat),⟨Nat.zero_le _,?_⟩,q⟩
  show (s1.heap.push _).get? s1.heap.objs.size = _
  rw [Heap.get?_push_size _ rfl]
  simp [Int.toNat_of_nonneg h0]
end
end
section
set_option bootstrap.genMatcherCode false
noncomputable def jO (env:Env):List (Str × NameKind)→List (Str × Addr)→List (Str × Addr)
 | [],acc=>acc
 | (n,k) :: r,acc=>if k == NameKind.free then jO env r ((n,(env.cells.lookup n).getD 0) :: acc) else jO env r acc
theorem wF {scope:Scope} {env:Env} (h:∀ x ∈ scope.names,x.2 = .free→(env.cells.lookup x.1).isSome = true):closureFor scope env = pure (jO env scope.names []):=by
 unfold closureFor
 have key:∀ (l:List (Str × NameKind)) (acc:List (Str × Addr)),(∀ x ∈ l,x.2 = .free→(env.cells.lookup x.1).isSome = true) →
   (forIn l acc fun (x:Str × NameKind) cs=>match x with | (name,kind)=>if (kind == NameKind.free) = true then (do let a ← cellOf env name; pure (ForInStep.yield ((name,a) :: cs)):Sem _) else pure (ForInStep.yield cs)) = pure (jO env l acc):=by
  intro l
  induction l with
  | nil=>intro acc _; rfl
  | cons x r ih =>
   intro acc hl
   obtain ⟨nm,k⟩:=x
   rw [List.forIn_cons]
   have hr:=fun y hy=>hl y (List.mem_cons_of_mem _ hy)
   unfold jO
   dsimp only
   by_cases hk:(k == NameKind.free) = true
   ·rw [if_pos hk,if_pos hk]
    obtain ⟨c,hc⟩:=Option.isSome_iff_exists.mp (hl (nm,k) (.head _) (by simpa using hk))
    have e:cellOf env nm = pure c:=by unfold cellOf; rw [hc]
    rw [e,hc]
    simp only [pure_bind,Option.getD_some]
    exact ih _ hr
   ·rw [if_neg hk,if_neg hk]
    simp only [pure_bind]
    exact ih _ hr
 have:=key scope.names [] h
 simp only [bind_pure]
 exact this
theorem dn {env:Env} {x:Str}:∀ (l:List (Str × NameKind)) (acc:List (Str × Addr)),(∀ p ∈ acc,p.2 = (env.cells.lookup p.1).getD 0) →
  (∀ c,(jO env l acc).lookup x = some c→c = (env.cells.lookup x).getD 0)∧((x,NameKind.free) ∈ l ∨ (acc.lookup x).isSome = true→((jO env l acc).lookup x).isSome = true)
 | [],acc,h=>⟨fun c hc=>by
   have:=mem_of_lookup hc
   exact h _ this,fun q=>q.elim (fun q=>nomatch q) id⟩
 | (n,k) :: r,acc,h=>by
  unfold jO
  by_cases hk:(k == NameKind.free) = true
  ·rw [if_pos hk]
   obtain ⟨a,b⟩:=dn (x:=x) r ((n,(env.cells.lookup n).getD 0) :: acc) (fun p hp=>by
    rcases List.mem_cons.mp hp with rfl | hp
    ·rfl
    ·exact h p hp)
   refine ⟨a,fun q=>b ?_⟩
   rcases q with q | q
   ·rcases List.mem_cons.mp q with e | q
    ·cases e; right; rw [List.lookup_cons]; simp
    ·exact .inl q
   ·right
    rw [List.lookup_cons]
    split
    ·rfl
    ·exact q
  ·rw [if_neg hk]
   obtain ⟨a,b⟩:=dn (x:=x) r acc h
   refine ⟨a,fun q=>b ?_⟩
   rcases q with q | q
   ·rcases List.mem_cons.mp q with e | q
    ·cases e; exact absurd rfl hk
    ·exact .inl q
   ·exact .inr q
noncomputable def n8 (env:Env) (names:List (Str × NameKind)):List (Str × NameKind):=names.map fun (n,k)=>if (k == NameKind.free && env.scope.kind == .function && env.kindOf n == some .cell) = true then (n,.cell) else (n,k)
section
variable {M:Model} {A:Around} {E:Value→Shared→Prop} {s:Shared} {env:Env}
end
end
section
set_option bootstrap.genMatcherCode false
section
variable {B:Base} {n:Nat} {H:HS} {sc:List (Str × NameKind)} {loc:Loc}
theorem cC (o:Obj) (f:Array Value→Array Value):(o.mapSeq f).dict = o.dict∧(o.mapSeq f).slots = o.slots:=by
 obtain ⟨c,d,dt,sl⟩:=o
 cases dt <;> exact ⟨rfl,rfl⟩
theorem tP {prog:Program} {w:World} {A:Around} {s:Shared} {l:Addr} {o:Obj} {items:Array Value} {m:Nat} {x:Value} {Q:Value→Shared→Prop} (ho:s.heap.get? l = some o) (hc:o.cls = .type "list") (hd:o.data = .seq items m) (hsz:items.size≤sizeLine)
  (hQ:Q .none { s with heap:=s.heap.update l (Obj.mapSeq (·.push x)) }):wpAny (model prog w) A (call (.builtin "list.append") [.ref l,x]) Q NoE s:=by
 have hl:s.heap.IsList l items:=⟨o,ho,hc,m,hd⟩
 refine wpAny_call_entry slot_list_append hl.typeIs entry_list_append ?_ (args_list_append _ _)
 show wpAny _ _ (updateSeq l (·.push x) >>= fun zz=>ret .none) _ _ s
 exact wpAny_bind (wpAny_updateSeq ho hd (wpAny_pure ⟨.none,rfl,hQ⟩))
theorem uV {k:Nat} {xs:List AV} {a:AV} {Q:AV→HS→Prop} (hk:H[k]? = some (.list xs)) (hz:xs.length≤100000) (h:Q .none (H.set k (.list (xs++[a])))) :
  GW B (VR B) n H [.cell k,a] (fun vs=>call (.builtin "list.append") [a0 vs,a1 vs]) Q:=fun A hp F s vs hA R hv=>by
 refine E2 hv fun v w h1 h2=>?_
 refine R.cell h1 hk fun p hpi hc=>?_; obtain ⟨hq,o,m,items,e1,e2,e3,e4,e5,e6⟩:=hc
 refine tP (items:=⟨items⟩) e1 e2 e3 (by show items.length≤sizeLine; rw [e4.len]; exact ay hz) ?_
 obtain ⟨m',hd'⟩:=Obj.data_mapSeq e3 (·.push w)
 refine ⟨F,.none,_,.refl,R.upd (tk:=s.toks) (b:=p.1) hpi (aN.mpr (.inl rfl)) (fun y hy=>Heap.get?_update_other _ _ (Ne.symm hy)) ?_,mh,h⟩
 refine ⟨hq,o.mapSeq (·.push w),m',items++[w],Heap.get?_update_self _ e1 (Obj.isFreed_of_seq hd'),(Obj.cls_mapSeq ..).trans e2,?_,e4.app (one h2),?_,?_⟩
 ·rw [hd']; simp
 ·rw [(cC o _).1]; exact e5
 ·rw [(cC o _).2]; exact e6
theorem rg {prog:Program} {w:World} {A:Around} {s:Shared} {R:Result→Shared→Prop} {elt target iter:Expr} {ifs:List Expr} {scope:Scope} {pos:Pos} {it acc:Value} {env:Env} (I:Nat→Shared→Prop)
  (turn:∀ n s,I n s→wpAny (model prog w) A (pyNext it) (fun r s₁=>match r with
   | none=>R (.ok .next) s₁
   | some v=>wpAny (model prog w) A (letOwnedTupleGo target it v) (fun zz s₁'=>wpAny (model prog w) A (assign target env v) (fun zz s₂ =>
     wpAny (model prog w) A (forIn ifs true fun c r=>if r = true then do let ok ← isTrue c env (eval c env); pure (ForInStep.yield ok) else pure (ForInStep.yield r)) (fun ok s₃ =>
      if ok = true then wpAny (model prog w) A (eval elt env) (fun x s₄=>wpAny (model prog w) A (call (.builtin "list.append") [acc,x]) (fun zz s₅=>∃ m,m < n∧I m s₅) NoE s₄) NoE s₃
      else ∃ m,m < n∧I m s₃) NoE s₂) NoE s₁') NoE s₁) NoE s)
  (n:Nat) (h:I n s):codeAny (model prog w) A (.compLoop (.ListComp elt [⟨target,iter,ifs,0⟩] scope pos) 0 it acc env) R s:=by
 refine codeAny_loop rfl I (fun n s hI=>?_) n h
 show wpAny _ A ((compTurn (.ListComp elt [⟨target,iter,ifs,0⟩] scope pos) 0 it acc env).onRaise (fun x=>do noteFrame x env; theTreesLotGoes x)) _ _ s
 refine wpAny_noted ?_
 rw [compTurn_list]
 refine wpAny_bind (wpAny_standAt (wpAny_bind (wpAny_mono (turn n s hI) (fun r s₁ h₁=>?_) fun zz zz h'=>h'.elim)))
 cases r with
 | none=>exact wpAny_pure h₁
 | some v =>
  refine wpAny_bind (wpAny_mono h₁ (fun zz s₁' h₁'=>wpAny_bind (wpAny_mono h₁' (fun zz s₂ h₂=>wpAny_bind (wpAny_mono h₂ (fun ok s₃ h₃=>?_) fun zz zz h'=>h'.elim)) fun zz zz h'=>h'.elim)) fun zz zz h'=>h'.elim)
  cases ok with
  | false=>exact wpAny_pure ⟨rfl,h₃⟩
  | true =>
   exact wpAny_bind (wpAny_bind (wpAny_mono h₃ (fun x s₄ h₄=>wpAny_bind (wpAny_mono h₄ (fun zz s₅ h₅=>wpAny_pure (wpAny_pure ⟨rfl,h₅⟩)) fun zz zz h'=>h'.elim)) fun zz zz h'=>h'.elim))
end
end
section
set_option bootstrap.genMatcherCode false
noncomputable def bg (names:List (Str × NameKind)):List (Str × NameKind):=names.map fun (n,k)=>if (k == NameKind.free) = true then (n,.cell) else (n,k)
structure CompOk (scope:Scope) (sc:List (Str × NameKind)) (loc:Loc) (sc':List (Str × NameKind)) (loc0:Loc):Prop where
 kind:scope.kind = .function
 cells:∀ x ∈ scope.names,x.2 ≠ .cell
 frees:∀ x,(x,NameKind.free) ∈ scope.names→(x,NameKind.cell) ∈ sc∧∃ a,(x,some a) ∈ loc
 names:∀ x ∈ scope.names,x.2 = .local→(bg scope.names).lookup x.1 = some .local
 plain:∀ x ∈ scope.names,x.2 = .local→scope.names.lookup x.1 = some .local
 sc:∀ x k,(x,k) ∈ sc'→k = .globalImplicit ∨ k = .local ∨ k = .cell→(bg scope.names).lookup x = some k
 lk:∀ x,x ∈ loc0.map (fun zz=>zz.1)→(bg scope.names).lookup x = some .local ∨ (bg scope.names).lookup x = some .cell
 ln:(loc0.map (fun zz=>zz.1)).Nodup
 db:∀ x ∈ loc0.map (fun zz=>zz.1),(x == ("__debug__":Str)) = false
 at_:∀ x a,(x,some a) ∈ loc0→(x,NameKind.free) ∈ scope.names∧(bg scope.names).lookup x = some .cell∧(x,some a) ∈ loc
theorem mT {env:Env} {x:Str} {c:Addr}:∀ (l:List (Str × NameKind)) (acc:List (Str × Addr)),(x,c) ∈ jO env l acc→(x,NameKind.free) ∈ l ∨ (x,c) ∈ acc
 | [],acc,h=>.inr h
 | (n,k) :: r,acc,h=>by
  unfold jO at h
  by_cases hk:(k == NameKind.free) = true
  ·rw [if_pos hk] at h
   have hk':k = .free:=by simpa using hk
   subst hk'
   rcases mT r _ h with q | q
   ·exact .inl (.tail _ q)
   ·rcases List.mem_cons.mp q with e | q
    ·cases e; exact .inl (.head _)
    ·exact .inr q
  ·rw [if_neg hk] at h
   exact (mT r _ h).imp (.tail _) id
section
variable {B:Base} {n:Nat} {H:HS} {sc sc':List (Str × NameKind)} {loc loc0:Loc}
noncomputable def gG (B:Base) (n:Nat) (sc:List (Str × NameKind)) (loc:Loc) (H:HS):List Expr→(Bool→HS→Prop)→Prop
 | [],Q=>Q true H
 | [c],Q=>TV B n sc loc H c Q
 | _,_=>False
theorem gG.e {ifs:List Expr} {Q:Bool→HS→Prop} {p:List Expr→Prop} (h:gG B n sc loc H ifs Q) (h0:Q true H→p []) (h1:∀ c,TV B n sc loc H c Q→p [c]):p ifs:=by
 cases ifs with
 | nil=>exact h0 h
 | cons c r=>cases r with
  | nil=>exact h1 c h
  | cons=>exact h.elim
theorem zk {elt target iter:Expr} {ifs:List Expr} {scope:Scope} {pos:Pos} {A:Around} {hp:Heap} {F:FF} {s:Shared} {env:Env} {it:Value} {a:Addr} {k N:Nat} {ps:List Addr} {I:Nat→FF→Heap→Prop} {J:Nat→FF→Heap→Value→Prop} {nxt:Nat→HS→Option (Option AV)} {P:Nat→Loc→HS→Prop} {Q:HS→Prop} {X:Result→Shared→Prop}
  (hA:dQ n A) (S:Src B target it ps I J nxt) (R:RelF B hp F sc' env loc H s) (PF:bw hp F env ps) (i0:I 0 F s.heap) (p0:P 0 loc H) (hc:AVR B.w.params F (.ref a) (.cell k))
  (step:∀ i loc1 H2,P i loc1 H2→match nxt i H2 with
   | none=>False
   | some none=>Q H2
   | some (some a)=>i < N∧∃ loc2,Tgt sc' target a loc1 loc2∧gG B n sc' loc2 H2 ifs fun c H3=>if c = true then EV B n sc' loc2 H3 elt (fun x H4=>∃ xs,H4[k]? = some (.list xs)∧xs.length≤100000∧P (i + 1) loc2 (H4.set k (.list (xs++[x]))))
     else P (i + 1) loc2 H3)
  (fin:∀ F5 loc5 H5 s7,bk hp F F5→RelF B hp F5 sc' env loc5 H5 s7→Q H5→X (.ok .next) s7) :
  codeAny (model B.prog B.w) A (.compLoop (.ListComp elt [⟨target,iter,ifs,0⟩] scope pos) 0 it (.ref a) env) X s:=by
 refine rg (LoI B hp F sc' env ps I P N) (fun m s5 hI=>?_) N ⟨0,F,loc,H,rfl,.refl,R,PF,i0,p0⟩
 clear R PF i0 p0
 obtain ⟨i,F5,loc5,H5,rfl,g5,R5,P5,i5,p5⟩:=hI
 have st:=step i loc5 H5 p5
 clear step p5
 obtain ⟨hp6,R6,Pr6,back6⟩:=R5.turn P5
 cases hn:nxt i H5 with
 | none=>rw [hn] at st; exact st.elim
 | some na =>
 cases na with
 | none =>
  rw [hn] at st
  refine wpAny_mono (S.done A hp6 F5 H5 s5 i hA.1 R6 Pr6 i5 hn) (fun r s7 hr=>?_) fun zz zz x=>x
  obtain ⟨R7,rfl,k7⟩:=hr
  exact fin F5 loc5 H5 s7 g5 (back6 F5 s7 .refl rfl R7 k7).2 st
 | some av =>
  rw [hn] at st
  refine wpAny_mono (S.item A hp6 F5 H5 s5 i av hA.1 R6 Pr6 i5 hn) (fun r s7 hr=>?_) fun zz zz x=>x
  clear fin hn i5 R6 Pr6
  obtain ⟨v,F7,rfl,g7,io7,R7,Pr7,j7,hv,k7⟩:=hr
  refine wpAny_mono (S.go A hp6 F7 H5 s7 i v R7 Pr7 j7) (fun zz s8 hr=>?_) fun zz zz x=>x
  obtain ⟨R8,i8,k8⟩:=hr
  obtain ⟨g8,R8'⟩:=back6 F7 s8 g7 io7 R8 fun b o hb e=>k8 b o hb (k7 b o hb e)
  have P8:bw hp F7 env ps:=⟨fun b hb=>⟨(Pr7 b hb).1,(Pr7 b hb).2.1,(P5.1 b hb).2.2⟩,P5.2⟩
  clear back6 R7 Pr7 j7 k7 k8 R8 P5 R5 io7
  obtain ⟨hlt,loc2,tg,body⟩:=st
  obtain ⟨hp9,R9,into9,sub9,back9⟩:=R8'.widen
  have live:∀ b ∈ ps,∀ o,s8.heap.get? b = some o→hp9.get? b = some o:=fun b hb o e=>into9 b o e (P8.2 b hb).1 (P8.1 b hb).1
  have fin:∀ F10 H10 s10,bk hp9 F7 F10→RelF B hp9 F10 sc' env loc2 H10 s10→P (i + 1) loc2 H10→∃ m,m < N - i∧LoI B hp F sc' env ps I P N m s10:=fun F10 H10 s10 g10 R10 p10=>by
   obtain ⟨g11,R11,k11⟩:=back9 F10 loc2 H10 s10 g10 R10
   refine ⟨N - (i + 1),Nat.sub_lt_sub_left hlt (Nat.lt_succ_self i),i + 1,F10,loc2,H10,rfl,(g5.trans g8).trans g11,R11,⟨fun b hb=>?_,P8.2⟩,S.keep _ _ _ _ _ i8 g11.1 fun b hb o e=>k11 b o (live b hb o e),p10⟩
   obtain ⟨o,e⟩:=S.live _ _ _ i8 b hb
   have e3:=live b hb o e
   refine ⟨fun hk=>?_,?_,(P8.1 b hb).2.2⟩
   ·rw [(R10.g.hk b hk).1] at e3; cases e3
   ·cases q:F10.f b with
    | none=>rfl
    | some o' =>
     rcases g10.2 _ _ q with z | z
     ·rw [(P8.1 b hb).2.1] at z; cases z
     ·rw [z] at e3; cases e3
  have hcell:=(hc.mono g5.1).mono g8.1
  clear live S i8 P8 back9 into9 sub9 R8' g5 g8 hc
  refine wpAny_mono (tg.run (Q:=fun zz s6=>RelF B hp9 F7 sc' env loc2 H5 s6) hA R9 hv fun s6 R7=>R7) (fun zz s9 R9'=>?_) fun zz zz x=>x
  clear R9 tg hv
  have elt_:∀ s10 F10 H10,bk hp9 F7 F10→RelF B hp9 F10 sc' env loc2 H10 s10→EV B n sc' loc2 H10 elt (fun x H4=>∃ xs,H4[k]? = some (.list xs)∧xs.length≤100000∧P (i + 1) loc2 (H4.set k (.list (xs++[x])))) →
    wpAny (model B.prog B.w) A (eval elt env) (fun x s₄=>wpAny (model B.prog B.w) A (call (.builtin "list.append") [.ref a,x]) (fun zz s₅=>∃ m,m < N - i∧LoI B hp F sc' env ps I P N m s₅) NoE s₄) NoE s10:=fun s10 F10 H10 g10 R10 he =>
   FV.then hA R10 he fun F11 vx x H11 s11 g11 R11 hx ⟨xs,hk,hz,p⟩ =>
    GW.then hA R11 (two ((hcell.mono g10.1).mono g11.1) hx) (uV hk hz (Q:=fun zz H12=>P (i + 1) loc2 H12) p) fun F12 u b H12 s12 g12 R12 zz q=>fin F12 H12 s12 ((g10.trans g11).trans g12) R12 q
  refine body.e (p:=fun ifs=>wpAny (model B.prog B.w) A (forIn ifs true fun c r=>if r = true then do let ok ← isTrue c env (eval c env); pure (ForInStep.yield ok) else pure (ForInStep.yield r)) _ NoE s9) (fun body=>?_) (fun c body=>?_)
  ·refine wpAny_tests_nil ?_
   rw [if_pos rfl] at body ⊢
   exact elt_ s9 F7 H5 .refl R9' body
  ·refine wpAny_tests_one (FV.then hA R9' body fun F10 b b' H10 s10 g10 R10 e q=>?_)
   have e':b = b':=e
   subst e'
   cases b with
   | true=>rw [if_pos rfl] at q ⊢; exact elt_ s10 F10 H10 g10 R10 q
   | false=>rw [if_neg Bool.false_ne_true] at q ⊢; exact fin F10 H10 s10 g10 R10 q
theorem qG {elt target iter:Expr} {ifs:List Expr} {scope:Scope} {pos:Pos} {Q:AV→HS→Prop} {A:Around} {hp:Heap} {F:FF} {s:Shared} {env:Env} {use:Option (Value→Sem Unit)} {Q':Value→Shared→Prop} {ipos:Pos} (ok:CompOk scope sc loc sc' loc0) (hA:dQ n A) (R:RelF B hp F sc env loc H s)
  (h:ITV B n sc loc H target iter fun nxt H1=>∃ (P:Nat→Loc→HS→Prop) (N:Nat),P 0 loc0 (H1++[.list []])∧∀ i loc1 H2,P i loc1 H2→match nxt i H2 with
   | none=>False
   | some none=>Q (.cell H1.length) H2
   | some (some a)=>i < N∧∃ loc2,Tgt sc' target a loc1 loc2∧gG B n sc' loc2 H2 ifs fun c H3=>if c = true then EV B n sc' loc2 H3 elt (fun x H4=>∃ xs,H4[H1.length]? = some (.list xs)∧xs.length≤100000∧P (i + 1) loc2 (H4.set H1.length (.list (xs++[x]))))
     else P (i + 1) loc2 H3)
  (hs:∀ env x,foldedSetIterable iter env x = pure x)
  (hfin:∀ F5 k H5 s5 a L,bk hp F F5→RelF B hp F5 sc env loc H5 s5→bw hp F5 env [L]→(∃ m,s5.heap.Ns L m)→AVR B.w.params F5 (.ref a) (.cell k)→Q (.cell k) H5→compPost (model B.prog B.w) A NoE use Q' (.ref a) L (.ok .next) s5) :
  wpAny (model B.prog B.w) A (comprehension (.ListComp elt [⟨target,iter,ifs,0⟩] scope pos) scope env ipos (newList []) false (eval iter env) use) Q' NoE s:=by
 have hcellk:∀ x,(x,NameKind.free) ∈ scope.names→env.kindOf x = some .cell∧∃ c,env.cells.lookup x = some c:=fun x hx=>by
  obtain ⟨h1,a,h2⟩:=ok.frees x hx
  have hk:=R.gk x _ h1 (.inr (.inr rfl))
  obtain ⟨m,_,hl⟩:=R.ns
  rcases hl x a h2 with ⟨q,_⟩ | ⟨_,c,o,v,e,_⟩
  ·rw [hk] at q; cases q
  ·exact ⟨hk,c,e⟩
 have hown:n8 env scope.names = bg scope.names:=by
  unfold n8 bg
  refine List.map_congr_left fun x hx=>?_
  obtain ⟨nm,k⟩:=x
  dsimp only
  by_cases hk:(k == NameKind.free) = true
  ·have hk':k = .free:=by simpa using hk
   subst hk'
   rw [(hcellk nm hx).1,R.fk]
   rfl
  ·have hk':(k == NameKind.free) = false:=by simpa using hk
   simp [hk']
 have hclo:=wF (scope:=scope) (env:=env) fun x hx hf=>by
  obtain ⟨nm,k⟩:=x
  have hf':k = .free:=hf
  subst hf'
  obtain ⟨c,hc⟩:=(hcellk nm hx).2
  rw [hc]; rfl
 refine wpAny_comprehension_free rfl (hs env) hclo ok.kind (fun x hx hl=>ok.plain x hx hl) ?_
 have hrel:relabel scope env = { scope with names:=bg scope.names }:=by
  have:relabel scope env = { scope with names:=n8 env scope.names }:=rfl
  rw [this,hown]
 rw [hrel]
 refine wpAny_mono (h A hp F s env hA R) (fun x s1 h1=>wpAny_mono h1 ?_ fun zz zz x=>x) fun zz zz x=>x
 rintro it s2 ⟨F1,H1,ps,I,J,nxt,g1,R1,P1,S,i1,P,N,p0,step⟩
 have hlen:F1.io.length = H1.length:=R1.g.hl
 have R2:=mX (tk:=s2.toks) (o:={ cls:=.type "list",data:=.seq ([]:List Value).toArray }) (c:=.list []) R1 rfl (fun h e=>⟨rfl,_,0,[],e,rfl,rfl,.nil,rfl,rfl⟩)
 refine wpAny_newObj_type ?_ (by show (0:Nat)≤sizeLine; exact Nat.zero_le _)
 have lt1:∀ b ∈ ps,@LT.lt Nat _ b s2.heap.objs.size:=fun b hb=>let ⟨o,e⟩:=S.live _ _ _ i1 b hb; Heap.lt_size e
 generalize ha:s2.heap.objs.size = a at R2 lt1
 generalize hs3:({ s2 with heap:=s2.heap.push { cls:=.type "list",dict:=none,data:=.seq ([]:List Value).toArray } }:Shared) = s3
 have hs3':s3.heap = s2.heap.push { cls:=.type "list",dict:=none,data:=.seq ([]:List Value).toArray }:=by rw [← hs3]
 have R2':RelF B hp (F1.more (a,a)) sc env loc (H1++[.list []]) s3:=by rw [← hs3]; exact R2
 have keep23:∀ b o,s2.heap.get? b = some o→s3.heap.get? b = some o:=fun b o e=>by rw [hs3']; exact Heap.get?_push_of_some _ e
 have keysMore:∀ b,b ∈ au (F1.more (a,a)).io→b ∈ au F1.io ∨ b = a:=fun b hb=>by
  have hb':b ∈ au (F1.io++[(a,a)]):=hb
  rw [b8] at hb'
  rcases List.mem_append.mp hb' with q | q
  ·exact .inl q
  ·right; simpa [au,du] using q
 have P2:bw hp (F1.more (a,a)) env ps:=⟨fun b hb=>⟨fun q=>(keysMore b q).elim (P1.1 b hb).1 fun e=>by have:=lt1 b hb; rw [e] at this; exact Nat.lt_irrefl _ this,(P1.1 b hb).2.1,(P1.1 b hb).2.2⟩,P1.2⟩
 have i2:I 0 (F1.more (a,a)) s3.heap:=S.keep _ _ _ _ _ i1 FF.more_le fun b hb o e=>keep23 b o e
 refine wpAny_newFunctionEnv ok.cells (by intro y hy; simp at hy) (fun h4 hns hsb=>?_) ok.kind
 have keep34:∀ b o,s3.heap.get? b = some o→h4.get? b = some o:=fun b o e=>hsb.extBut b o (Nat.ne_of_lt (Heap.lt_size e)) (Heap.get?_push_of_some _ e)
 have R3:=R2'.ext (tk:=s3.toks + ([]:List (Str × Value)).length) keep34
 have lt2:∀ b ∈ ps,@LT.lt Nat _ b s3.heap.objs.size:=fun b hb=>let ⟨o,e⟩:=S.live _ _ _ i2 b hb; Heap.lt_size e
 obtain ⟨f1,f2,f3⟩:=R2'.g.fresh
 have P3:bw hp (F1.more (a,a)) env (s3.heap.objs.size :: ps):=by
  obtain ⟨⟨pf,pf2⟩,_⟩:=R2'.fresh_priv (o:={ cls:=.type "dict",data:=.dict #[] }) (tk:=s3.toks)
  exact ⟨fun b hb=>(List.mem_cons.mp hb).elim (fun e=>e ▸ pf _ (.head _)) (P2.1 b),fun b hb=>(List.mem_cons.mp hb).elim (fun e=>e ▸ pf2 _ (.head _)) (P2.2 b)⟩
 obtain ⟨hp2,Rg,Pr,into,back⟩:=R3.under P3
 generalize hL:s3.heap.objs.size = L at *
 have i4:I 0 (F1.more (a,a)) h4:=S.keep _ _ _ _ _ i2 .refl fun b hb o e=>keep34 b o e
 have hlook:∀ x c,(jO env scope.names []).lookup x = some c→env.cells.lookup x = some c:=fun x c e=>by
  rcases mT _ _ (mem_of_lookup e) with q | q
  ·obtain ⟨_,c',hc'⟩:=hcellk x q
   have:=(dn (env:=env) (x:=x) scope.names [] (fun zz hp=>nomatch hp)).1 c e
   rw [hc'] at this
   rw [hc',this]; rfl
  ·exact nomatch q
 obtain ⟨cenv,hce⟩:∃ cenv:Env,cenv = { newEnv scope L env.globals (jO env scope.names []) env.qual none .none (some env) 0 with scope:={ scope with names:=bg scope.names } }:=⟨_,rfl⟩
 have eL:cenv.locals = L:=by rw [hce]; rfl
 have eC:cenv.cells = jO env scope.names []:=by rw [hce]; rfl
 have eK:∀ x,cenv.kindOf x = (bg scope.names).lookup x:=fun x=>by rw [hce]; rfl
 obtain ⟨m3,hm3,hl3⟩:=R3.ns
 have RF:RelF B hp2 (F1.more (a,a)) sc' cenv loc0 (H1++[.list []]) { s3 with heap:=h4,toks:=s3.toks + ([]:List (Str × Value)).length }:=by
  refine ⟨Rg,by rw [hce]; exact ok.kind,by rw [hce]; exact R.eg,by rw [hce]; exact R.eb,fun x k hx hk=>(eK x).trans (ok.sc x k hx hk),fun x hx=>?_,ok.ln,ok.db,by rw [eL]; exact (Pr L (.head _)).2.2,by rw [eL]; exact (Pr L (.head _)).2.1,by rw [eL]; exact (Pr L (.head _)).1,fun x c e=>?_,_,by rw [eL]; exact hns,fun x v hx=>?_⟩
  ·rw [eK]; exact (ok.lk x hx).elim .inl fun q=>.inr (.inl q)
  ·rw [eC] at e
   have e':=hlook x c e
   obtain ⟨k1,k2,k3⟩:=R3.cl x c e'
   exact ⟨k1,k2,fun q=>(P3.2 L (.head _)).2 x c e' (by rw [q,eL])⟩
  ·obtain ⟨q1,q2,q3⟩:=ok.at_ x v hx
   obtain ⟨hk,c0,hc0⟩:=hcellk x q1
   rcases hl3 x v q3 with ⟨q,_⟩ | ⟨_,c,o,u,e1,e2,e3,e4,e5,e6⟩
   ·rw [hk] at q; cases q
   ·refine .inr ⟨.inl (by rw [eK]; exact q2),c,o,u,?_,e2,e3,e4,fun q=>(P3.2 L (.head _)).2 x c e1 (by rw [q,eL]),e6⟩
    rw [eC]
    obtain ⟨b1,b2⟩:=dn (env:=env) (x:=x) scope.names [] (fun zz hp=>nomatch hp)
    obtain ⟨c1,hc1⟩:=Option.isSome_iff_exists.mp (b2 (.inl q1))
    have:=b1 c1 hc1
    rw [e1] at this
    rw [hc1,this]; rfl
 have P4:bw hp2 (F1.more (a,a)) cenv ps:=⟨fun b hb=>Pr b (.tail _ hb),fun b hb=>⟨by rw [eL]; exact Nat.ne_of_lt (lt2 b hb),fun x c e=>by
  rw [eC] at e
  exact (P2.2 b hb).2 x c (hlook x c e)⟩⟩
 have loop:codeAny (model B.prog B.w) A (.compLoop (.ListComp elt [⟨target,iter,ifs,0⟩] scope pos) 0 it (.ref a) cenv) (compPost (model B.prog B.w) A NoE use Q' (.ref a) L) { s3 with heap:=h4,toks:=s3.toks + ([]:List (Str × Value)).length }:=by
  refine zk hA S RF P4 i4 p0 (by rw [← hlen]; exact dK) step fun F5 loc5 H5 s7 g5 R7' st=>?_
  obtain ⟨m7,hm7,_⟩:=R7'.ns
  rw [eL] at hm7
  obtain ⟨g8,R8'⟩:=back F5 H5 _ g5 R7'.g
  exact hfin F5 H1.length H5 s7 a L ((g1.trans FF.more_grow).trans g8) R8' ⟨fun b hb=>by
   rw [List.mem_singleton] at hb; subst hb
   exact ⟨by rw [← eL]; exact R7'.kL,by rw [← eL]; exact R7'.fL,(P3.1 b (.head _)).2.2⟩,fun b hb=>by
   rw [List.mem_singleton] at hb; subst hb; exact P3.2 b (.head _)⟩ ⟨m7,hm7⟩ (by rw [← hlen]; exact dK.mono g8.1) st
 have goal:=codeAny_compStart_list loop (wpAny_mono (S.self_ A 0 (F1.more (a,a)) { s3 with heap:=h4,toks:=s3.toks + ([]:List (Str × Value)).length } (fun it' s'=>it' = it∧s' = { s3 with heap:=h4,toks:=s3.toks + ([]:List (Str × Value)).length }) i4 ⟨rfl,rfl⟩) (fun it' s' e=>by rw [e.1,e.2]; exact loop) fun zz zz x=>x.elim)
 rw [hce] at goal
 exact goal
theorem kz {elt target iter:Expr} {ifs:List Expr} {scope:Scope} {pos:Pos} {Q:AV→HS→Prop} (ok:CompOk scope sc loc sc' loc0)
  (h:ITV B n sc loc H target iter fun nxt H1=>∃ (P:Nat→Loc→HS→Prop) (N:Nat),P 0 loc0 (H1++[.list []])∧∀ i loc1 H2,P i loc1 H2→match nxt i H2 with
   | none=>False
   | some none=>Q (.cell H1.length) H2
   | some (some a)=>i < N∧∃ loc2,Tgt sc' target a loc1 loc2∧gG B n sc' loc2 H2 ifs fun c H3=>if c = true then EV B n sc' loc2 H3 elt (fun x H4=>∃ xs,H4[H1.length]? = some (.list xs)∧xs.length≤100000∧P (i + 1) loc2 (H4.set H1.length (.list (xs++[x]))))
     else P (i + 1) loc2 H3)
  (hs:autoParam (∀ env x,foldedSetIterable iter env x = pure x) bD):EV B n sc loc H (.ListComp elt [⟨target,iter,ifs,0⟩] scope pos) Q:=fun A hp F s env hA R=>by
 rw [eval_ListComp]
 refine qG ok hA R h hs fun F5 k H5 s5 a L g R5 P5 ⟨m,hm⟩ hr q=>⟨m,hm,fun h' hs'=>?_⟩
 obtain ⟨hp2,R6,Pr6,back6⟩:=R5.turn P5
 have kk:∀ b o,b ∉ [L]→s5.heap.get? b = some o→h'.get? b = some o:=fun b o hb e=>(hs'.2 b (by simpa using hb)).trans e
 obtain ⟨g7,R7⟩:=back6 F5 { s5 with heap:=h' } .refl rfl (R6.priv Pr6 kk) kk
 exact ⟨F5,.cell k,H5,g,R7,hr,q⟩
theorem gE {x:Str} {xp pos':Pos} {elt target iter:Expr} {ifs:List Expr} {scope:Scope} {pos:Pos} {Q:AF→Loc→HS→Prop} (ok:CompOk scope sc loc sc' loc0) (hl:(x,NameKind.local) ∈ sc)
  (h:ITV B n sc loc H target iter fun nxt H1=>∃ (P:Nat→Loc→HS→Prop) (N:Nat),P 0 loc0 (H1++[.list []])∧∀ i loc1 H2,P i loc1 H2→match nxt i H2 with
   | none=>False
   | some none=>∃ loc',Up x (.cell H1.length) loc loc'∧Q .next loc' H2
   | some (some a)=>i < N∧∃ loc2,Tgt sc' target a loc1 loc2∧gG B n sc' loc2 H2 ifs fun c H3=>if c = true then EV B n sc' loc2 H3 elt (fun x H4=>∃ xs,H4[H1.length]? = some (.list xs)∧xs.length≤100000∧P (i + 1) loc2 (H4.set H1.length (.list (xs++[x]))))
     else P (i + 1) loc2 H3)
  (hs:autoParam (∀ env x,foldedSetIterable iter env x = pure x) bD)
  (hsw:∀ env:Env,env.scope.kind = .function→env.kindOf x = some .local→swapsWith (.ListComp elt [⟨target,iter,ifs,0⟩] scope pos) (some (.Name x xp)) pos'.line env = pure true):XO B n sc loc H (.Assign [.Name x xp] (.ListComp elt [⟨target,iter,ifs,0⟩] scope pos) pos') Q:=fun A hp F s env hA R=>by
 show wpAny _ _ (exec _ env) _ _ _
 rw [exec_Assign_Name_used _ _ _ _ (hsw env R.fk (R.gk x _ hl (.inr (.inl rfl))))]
 refine wpAny_bind (wpAny_standAt (wpAny_bind ?_))
 show wpAny _ A (do let _ ← comprehension (.ListComp elt [⟨target,iter,ifs,0⟩] scope pos) scope env _ (newList []) false (eval iter env) (some (assign (.Name x xp) env))) _ _ s
 refine wpAny_bind (wpAny_mono (qG (Q:=fun a H'=>∃ loc',Up x a loc loc'∧Q .next loc' H') (Q':=fun zz s'=>ES B hp F sc env Q .next s') ok hA R h hs fun F5 k H5 s5 a L g R5 P5 ⟨m,hm⟩ hr ⟨loc',hu,q⟩=>?_) (fun zz s' hq=>wpAny_pure (wpAny_pure hq)) fun zz zz e=>e)
 show wpAny _ A (assign (.Name x xp) env (.ref a)) _ _ _
 have hLne:L ≠ env.locals:=(P5.2 L (.head _)).1
 have k5:=P5.1 L (.head _)
 obtain ⟨m0,hm0,hx0⟩:=R5.ns
 refine assign_Name (wpAny_storeName_local (R5.gk x _ hl (.inr (.inl rfl))) hm0 (fun h2 hn2 hs2=>?_) (by rw [R5.fk]; rfl))
 refine ⟨m,hm.sameBut hs2 hLne,fun h3 hs3=>?_⟩
 have R6:RelF B hp F5 sc env loc' H5 { s5 with heap:=h2,toks:=s5.toks + 1 }:=R5.stored hu hl hr hx0 hn2 hs2
 have P6:bw hp F5 env [L]:=P5
 obtain ⟨hp2,R7,Pr7,back7⟩:=R6.turn P6
 have kk:∀ b o,b ∉ [L]→h2.get? b = some o→h3.get? b = some o:=fun b o hb e=>(hs3.2 b (by simpa using hb)).trans e
 obtain ⟨g8,R8⟩:=back7 F5 { s5 with heap:=h3,toks:=s5.toks + 1 } .refl rfl (R7.priv (tk:=s5.toks + 1) Pr7 kk) kk
 exact ⟨F5,.next,loc',H5,g,R8,trivial,q⟩
end
end
section
set_option bootstrap.genMatcherCode false
section
variable {B:Base} {n:Nat} {H:HS}
theorem v8 {x y:List Nat} {Q:AV→HS→Prop} (hz:x.length + y.length≤100000) (h:Q (.str (x++y)) H):gD B n .Add (.str x) (.str y) H Q:=fun A hp F s vs hA R hv=>by
 refine E2 hv fun v w h1 h2=>?_
 refine Es h1 fun t=>?_; refine Es h2 fun u=>?_
 refine PyProof.Rows.add_str (fun t' tk=>ok R.toks ?_ h) (by show x.toArray.size + y.toArray.size≤sizeLine; rw [List.size_toArray,List.size_toArray]; exact ay hz)
 have:((⟨x.toArray⟩:Str)++⟨y.toArray⟩) = ⟨(x++y).toArray⟩:=by show Str.mk _ = _; simp
 rw [this]; exact cy
theorem Te {x y:List Nat} {Q:AV→HS→Prop} (h:Q (.bool !(Builtin.Str.occurrences ⟨x.toArray⟩ ⟨y.toArray⟩ 0 x.length 1).isEmpty) H):CMP B n .In (.str y) (.str x) H Q:=fun A hp F s vs hA R hv=>by
 refine E2 hv fun v w h1 h2=>?_
 refine Es h1 fun t=>?_; refine Es h2 fun u=>?_
 refine PyProof.Rows.in_str (ok R ak ?_)
 have:Str.length ⟨x.toArray⟩ = x.length:=by show x.toArray.size = _; simp
 rw [this]; exact h
theorem Zr {x:List Nat} {Q:AV→HS→Prop} (hz:x.length≤100000) (h:Q (.int x.length) H):ac B n (.builtin "len") [.str x] H Q:=fun A hp F s vs hA R hv=>by
 refine E1 hv fun v h1=>?_
 refine Es h1 fun t=>?_
 have e:Str.length ⟨x.toArray⟩ = x.length:=by show x.toArray.size = _; simp
 refine PyProof.Rows.len_str (by rw [e]; lia) ?_
 rw [e]
 exact ok (R.toks (tk:=s.toks + 1 + 1)) ax h
theorem ZD {i:Int} {Q:AV→HS→Prop} (h0:0≤i) (h1:i≤1114111) (h:Q (.str [i.toNat]) H):ac B n (.builtin "chr") [.int i] H Q:=fun A hp F s vs hA R hv=>by
 refine E1 hv fun v hv1=>?_
 refine Ei hv1 fun t=>?_
 exact PyProof.Rows.chr_of_range h0 h1 (ok R.toks (by simp only [VR,AVR]; exact ⟨s.toks,rfl⟩) h)
theorem ZC {c:Nat} {Q:AV→HS→Prop} (h:Q (.int c) H):ac B n (.builtin "ord") [.str [c]] H Q:=fun A hp F s vs hA R hv=>by
 refine E1 hv fun v hv1=>?_
 refine Es hv1 fun t=>?_
 exact PySem.P.ord_of_char (c:=c) (ok R.toks ax h)
theorem ZG {i:Int} {Q:AV→HS→Prop} (h:Q (.int (if i < 0 then -i else i)) H):ac B n (.builtin "abs") [.int i] H Q:=fun A hp F s vs hA R hv=>by
 refine E1 hv fun v hv1=>?_
 refine Ei hv1 fun t=>?_
 exact PyProof.Rows.call_abs_int fun u tk=>ok R.toks ax h
end
end
section
set_option bootstrap.genMatcherCode false
section
variable {B:Base} {n:Nat} {H:HS}
theorem Cd {P:Params} {F:FF} {r:Addr} {a b c:Int} {t u w:Tok}:AVR P (F.put r { cls:=.type "range",data:=.fields #[.int a t,.int b u,.int c w] }) (.ref r) (.rng a b c):=by
 simp only [AVR]; exact ⟨r,t,u,w,rfl,FF.put_self⟩
theorem uv {a b c:Int} {Q:AV→HS→Prop} (hc:c ≠ 0) (hpl:Builtin.divisionGoesByPylong (b - a) c = false) (h:Q (.rng a b c) H):ac B n (.type "range") [.int a,.int b,.int c] H Q:=fun A hp F s vs hA R hv=>by
 refine E3 hv fun v w u h1 h2 h3=>?_
 refine Ei h1 fun t1=>?_; refine Ei h2 fun t2=>?_; refine Ei h3 fun t3=>?_
 obtain ⟨g,R2⟩:=R.put (tk:=s.toks) (o:={ cls:=.type "range",data:=.fields #[.int a t1,.int b t2,.int c t3] }) rfl
 exact PySem.call_range_3 hc ⟨_,.rng a b c,H,g,R2,Cd,h⟩ (.inl hpl)
theorem z3 {i:Nat} {Q:AV→HS→Prop} (h:Q (.bool true) H):CMP B n .Is (.cell i) (.cell i) H Q:=fun A hp F s vs hA R hv=>by
 refine E2 hv fun v w h1 h2=>?_
 simp only [AVR] at h1 h2
 obtain ⟨a,d,e1,rfl⟩:=h1
 obtain ⟨a',d',e1',rfl⟩:=h2
 rw [e1] at e1'; cases e1'
 exact wpAny_is_ref_self (ok R ak h)
end
end
section
set_option bootstrap.genMatcherCode false
section
variable {B:Base} {n:Nat} {H:HS}
theorem Vi {b:Int} {Q:AV→HS→Prop} (h:Q (.rng 0 b 1) H):ac B n (.type "range") [.int b] H Q:=fun A hp F s vs hA R hv=>by
 refine E1 hv fun v h1=>?_
 refine Ei h1 fun t1=>?_
 obtain ⟨g,R2⟩:=R.put (tk:=s.toks + 1 + 1) (o:={ cls:=.type "range",data:=.fields #[.int 0 s.toks,.int b t1,.int 1 (s.toks + 1)] }) rfl
 exact PySem.call_range_1 ⟨_,.rng 0 b 1,H,g,R2,Cd,h⟩
theorem nv {o:Obj} {items:Array Value} {m:Nat} (e2:o.cls = .type "list") (e3:o.data = .seq items m) (e5:o.dict = none) (e6:o.slots = #[]):o = { cls:=.type "list",dict:=none,data:=.seq items m,slots:=#[] }:=by
 obtain ⟨c,d,dt,sl⟩:=o
 simp only at e2 e3 e5 e6
 subst e2 e3 e5 e6
 rfl
theorem AE {k:Nat} {xs:List AV} {a:AV} {Q:AV→HS→Prop} (hk:H[k]? = some (.list (xs++[a]))) (hz:xs.length + 1≤100000) (h:Q a (H.set k (.list xs))) :
  ac B n (.builtin "list.pop") [.cell k] H Q:=fun A hp F s vs hA R hv=>by
 refine E1 hv fun v h1=>?_
 refine R.cell h1 hk fun p hpi hc=>?_; obtain ⟨hq,o,m,items,e1,e2,e3,e4,e5,e6⟩:=hc
 have hlen:items.length = xs.length + 1:=by rw [e4.len]; simp
 have hw:=nv e2 e3 e5 e6
 obtain ⟨y,hy,hr⟩:=e4.at xs.length (a:=a) (by simp)
 have hsz:(⟨items⟩:Array Value).size = xs.length + 1:=hlen
 have hl:IsL s.heap p.1 ⟨items⟩ m:=by show s.heap.get? p.1 = _; rw [e1,hw]
 refine call_meets PySem.F.slot_list_pop ⟨_,hl,rfl⟩ PySem.F.entry_list_pop (PySem.F.args_list_pop_1 _) (PySem.MeetsSeq.list_pop_last p.1 ⟨items⟩ m y (by rw [hsz]; simpa using hy) (by rw [hsz]; exact ay hz)) ⟨hl,?_⟩
 have he:(⟨items⟩:Array Value).eraseIdxIfInBounds ((⟨items⟩:Array Value).size - 1) = ⟨items.take xs.length⟩:=by
  rw [hsz,Nat.add_sub_cancel]
  apply Array.ext'
  unfold Array.eraseIdxIfInBounds
  rw [dif_pos (by rw [hsz]; exact Nat.lt_succ_self _),Array.toList_eraseIdx,List.eraseIdx_eq_take_drop_succ]
  have:items.drop (xs.length + 1) = []:=List.drop_eq_nil_of_le (by rw [hlen]; exact Nat.le_refl _)
  show items.take xs.length++items.drop (xs.length + 1) = _
  rw [this,List.append_nil]
 have hu:=hl.update fun xs'=>xs'.eraseIdxIfInBounds ((⟨items⟩:Array Value).size - 1)
 rw [he] at hu
 refine ⟨F,a,_,.refl,R.upd (tk:=s.toks) (b:=p.1) hpi (aN.mpr (.inl rfl)) (fun z hz=>Heap.get?_update_other _ _ (Ne.symm hz)) ?_,hr,h⟩
 have ht:af B.w.params F (items.take xs.length) xs:=by simpa using e4.take xs.length
 exact ⟨hq,_,_,items.take xs.length,hu,rfl,rfl,ht,rfl,rfl⟩
end
end
section
set_option bootstrap.genMatcherCode false
section
variable {B:Base} {n:Nat} {H:HS}
theorem ue {x:List Nat} {name:Str} {id:String} {Q:Value × List AV→HS→Prop}
  (hm:∀ (y:Str) (t:Tok) (pl:Sem Bool) (A:Around) (s:Shared) (R:Value × List Value→Shared→Prop),R (.builtin id,[.str y t]) s→wpAny (model B.prog B.w) A (getMethod (.str y t) name pl) R NoE s)
  (h:Q (.builtin id,[.str x]) H):ee B n (.str x) name H Q:=fun pl A hp F s vs hA R hv=>by
 refine E1 hv fun v h1=>?_
 refine Es h1 fun t=>?_
 exact hm _ _ _ _ _ _ ⟨F,(.builtin id,[.str x]),H,.refl,R,⟨rfl,one cy⟩,h⟩
theorem m_find {x:List Nat} {Q:Value × List AV→HS→Prop} (h:Q (.builtin "str.find",[.str x]) H):ee B n (.str x) "find" H Q:=ue (fun y t pl A s R hr=>PySem.GM.find hr) h
theorem FJ {x:List Nat} {Q:Value × List AV→HS→Prop} (h:Q (.builtin "str.index",[.str x]) H):ee B n (.str x) "index" H Q:=ue (fun y t pl A s R hr=>PySem.GM.index hr) h
theorem NJ {x:List Nat} {Q:Value × List AV→HS→Prop} (h:Q (.builtin "str.join",[.str x]) H):ee B n (.str x) "join" H Q:=ue (fun y t pl A s R hr=>PySem.GM.join hr) h
theorem m_lower {x:List Nat} {Q:Value × List AV→HS→Prop} (h:Q (.builtin "str.lower",[.str x]) H):ee B n (.str x) "lower" H Q:=ue (fun y t pl A s R hr=>PySem.GM.lower hr) h
theorem m_rstrip {x:List Nat} {Q:Value × List AV→HS→Prop} (h:Q (.builtin "str.rstrip",[.str x]) H):ee B n (.str x) "rstrip" H Q:=ue (fun y t pl A s R hr=>PySem.GM.rstrip hr) h
end
end
section
set_option bootstrap.genMatcherCode false
section
variable {B:Base} {n:Nat} {H:HS}
theorem wC {k:Nat} {xs:List AV} {name:Str} {id:String} {Q:Value × List AV→HS→Prop} (slot:Slot "list" name id) (ty:typeOf (.builtin id) = pure (.type "method_descriptor")) (hk:H[k]? = some (.list xs)) (h:Q (.builtin id,[.cell k]) H) :
  ee B n (.cell k) name H Q:=fun pl A hp F s vs hA R hv=>by
 refine E1 hv fun v h1=>?_
 refine R.cell h1 hk fun p hpi hc=>?_; obtain ⟨hq,o,m,items,e1,e2,e3,e4,e5,e6⟩:=hc
 have hT:s.TypeIs (.ref p.1) "list":=⟨o,e1,e2⟩
 show wpAny _ _ (getMethod (.ref p.1) name pl) _ _ _
 unfold getMethod
 refine wpAny_bind (wpAny_specialOf hT list_getattribute ?_)
 show wpAny _ A (if (Manifest.canonical "list.__getattribute__" != "object.__getattribute__") = true then _ else _) _ _ s
 rw [canon_list_getattribute,if_neg Bool.false_ne_true]
 refine wpAny_bind (wpAny_specialOf hT list_getattr_none ?_)
 refine wpAny_bind (wpAny_specialOf hT slot.lookup ?_)
 refine wpAny_bind (wpAny_of_eq ty ?_)
 refine wpAny_bind (wpAny_load e1 ?_)
 rw [e5]
 exact wpAny_bind (wpAny_rule (wpAny_pure ⟨F,(.builtin id,[.cell k]),H,.refl,R,⟨rfl,one (tZ hpi)⟩,h⟩))
theorem DM {k:Nat} {xs:List AV} {Q:Value × List AV→HS→Prop} (hk:H[k]? = some (.list xs)) (h:Q (.builtin "list.append",[.cell k]) H):ee B n (.cell k) "append" H Q:=wC slot_list_append type_list_append hk h
theorem V9 {k:Nat} {xs:List AV} {Q:Value × List AV→HS→Prop} (hk:H[k]? = some (.list xs)) (h:Q (.builtin "list.pop",[.cell k]) H):ee B n (.cell k) "pop" H Q:=wC PySem.F.slot_list_pop PySem.F.type_list_pop hk h
theorem D4 {k:Nat} {xs:List AV} {Q:Value × List AV→HS→Prop} (hk:H[k]? = some (.list xs)) (h:Q (.builtin "list.extend",[.cell k]) H):ee B n (.cell k) "extend" H Q:=wC PySem.F.slot_list_extend PySem.F.type_list_extend hk h
end
end
section
set_option bootstrap.genMatcherCode false
section
variable {B:Base} {n:Nat} {H:HS}
theorem C3 {P:Params} {F:FF} {h:Heap} {p:Addr × Addr} {c:Cell} (r:bo P F h p c):∃ o,h.get? p.1 = some o∧o.cls ≠ .type "tuple":=by
 cases c with
 | list=>obtain ⟨_,o,_,_,e1,e2⟩:=r; exact ⟨o,e1,by rw [e2]; decide⟩
 | inst=>obtain ⟨_,_,_,e1⟩:=r; exact ⟨_,e1,by intro e; cases e⟩
 | dict=>obtain ⟨_,o,_,_,e1,e2⟩:=r; exact ⟨_,e1,by rw [e2.1]; decide⟩
theorem E4 {hp:Heap} {F:FF} {s:Shared} {i:Nat} {p:Addr × Addr} {a:Addr} {o:Obj} (R:RelG B hp F H s) (hi:F.io[i]? = some p) (hK:B.K.lookup a = some o):p.1 ≠ a:=fun e=>by
 have:=R.fk p.1 (fg (List.mem_of_getElem? hi) (.inl rfl))
 rw [e,R.fK a o hK] at this; cases this
theorem D9 {i:Nat} {a:Addr} {o:Obj} {c:Cell} {Q:AV→HS→Prop} (hi:H[i]? = some c) (hK:B.K.lookup a = some o) (h:Q (.bool false) H):CMP B n .Is (.cell i) (.val (.ref a)) H Q:=fun A hp F s vs hA R hv=>by
 refine E2 hv fun v w h1 h2=>?_
 refine R.cell h1 hi fun p hpi hc=>?_
 refine Ev h2 ?_
 obtain ⟨ox,e1,e2⟩:=C3 hc
 exact wpAny_is_ref_other (E4 R hpi hK) e1 (R.good.X _ _ hK) e2 (ok R ak h)
theorem fH {a:Addr} {Q:AV→HS→Prop} (h:Q (.bool true) H):CMP B n .Is (.val (.ref a)) (.val (.ref a)) H Q:=fun A hp F s vs hA R hv=>by
 refine E2 hv fun v w h1 h2=>?_
 refine Ev h1 ?_; refine Ev h2 ?_
 exact wpAny_is_ref_self (ok R ak h)
end
end
section
set_option bootstrap.genMatcherCode false
mutual
noncomputable def AV.bd (m:Nat):AV→Prop
 | .cell i=>i < m
 | .tup xs=>AV.bds m xs
 | .lst xs=>AV.bds m xs
 | .arg xs=>AV.bds m xs
 | .obj _ _ xs=>AV.bds m xs
 | .none=>True
 | .bool _=>True
 | .int _=>True
 | .str _=>True
 | .val _=>True
 | .rng _ _ _=>True
noncomputable def AV.bds (m:Nat):List AV→Prop
 | []=>True
 | a :: as=>AV.bd m a∧AV.bds m as
end
mutual
theorem AV.bd.le {m k:Nat} (h:m≤k):∀ {a:AV},a.bd m→a.bd k
 | .cell i,r=>by simp only [AV.bd] at r ⊢; lia
 | .tup xs,r=>by simp only [AV.bd] at r ⊢; exact AV.bds.le h r
 | .lst xs,r=>by simp only [AV.bd] at r ⊢; exact AV.bds.le h r
 | .arg xs,r=>by simp only [AV.bd] at r ⊢; exact AV.bds.le h r
 | .obj _ _ xs,r=>by simp only [AV.bd] at r ⊢; exact AV.bds.le h r
 | .none,_=>by simp only [AV.bd]
 | .bool _,_=>by simp only [AV.bd]
 | .int _,_=>by simp only [AV.bd]
 | .str _,_=>by simp only [AV.bd]
 | .val _,_=>by simp only [AV.bd]
 | .rng _ _ _,_=>by simp only [AV.bd]
theorem AV.bds.le {m k:Nat} (h:m≤k):∀ {as:List AV},AV.bds m as→AV.bds k as
 | [],_=>by simp only [AV.bds]
 | a :: as,r=>by simp only [AV.bds] at r ⊢; exact ⟨AV.bd.le h r.1,AV.bds.le h r.2⟩
end
theorem AV.bds_iff {m:Nat}:∀ {as:List AV},AV.bds m as ↔ ∀ a ∈ as,a.bd m
 | []=>by simp [AV.bds]
 | a :: as=>by simp only [AV.bds,AV.bds_iff (as:=as),List.mem_cons,forall_eq_or_imp]
noncomputable def Cell.bd (m:Nat):Cell→Prop
 | .list xs=>AV.bds m xs
 | .inst _ fs=>AV.bds m (fs.map (fun zz=>zz.2))
 | .dict kvs=>AV.bds m (kvs.map (fun zz=>zz.2))
noncomputable def HWf (H:HS):Prop:=∀ c ∈ H,c.bd H.length
mutual
theorem AVR.bd {P:Params} {F:FF}:∀ {v:Value} {a:AV},AVR P F v a→a.bd F.io.length
 | _,.cell i,r=>by
  simp only [AVR] at r; simp only [AV.bd]
  obtain ⟨a,d,e,_⟩:=r
  exact (List.getElem?_eq_some_iff.mp e).1
 | _,.tup xs,r=>by
  simp only [AVR] at r; simp only [AV.bd]
  obtain ⟨a,o,n,items,e1,e2,e3,e4,e5⟩:=r
  exact af.bds e5
 | _,.lst xs,r=>by
  simp only [AVR] at r; simp only [AV.bd]
  obtain ⟨a,n,items,e1,e2,e5⟩:=r
  exact af.bds e5
 | _,.arg xs,r=>by
  simp only [AVR] at r; simp only [AV.bd]
  obtain ⟨a,o,n,items,e1,e2,e3,e4,e5⟩:=r
  exact af.bds e5
 | _,.obj _ _ xs,r=>by
  simp only [AVR] at r; simp only [AV.bd]
  obtain ⟨a,d,es,m,e1,e2,e3,e4,e5⟩:=r
  exact af.bds e5
 | _,.none,_=>by simp only [AV.bd]
 | _,.bool _,_=>by simp only [AV.bd]
 | _,.int _,_=>by simp only [AV.bd]
 | _,.str _,_=>by simp only [AV.bd]
 | _,.val _,_=>by simp only [AV.bd]
 | _,.rng _ _ _,_=>by simp only [AV.bd]
theorem af.bds {P:Params} {F:FF}:∀ {vs:List Value} {as:List AV},af P F vs as→AV.bds F.io.length as
 | _,[],_=>by simp only [AV.bds]
 | _,a :: as,r=>by
  simp only [af] at r
  obtain ⟨v,r',e1,e2,e3⟩:=r
  simp only [AV.bds]
  exact ⟨AVR.bd e2,af.bds e3⟩
end
noncomputable def Cut (m:Nat) (F G:FF):Prop:=(∀ a o,F.f a = some o→G.f a = some o)∧∀ (i:Nat) p,i < m→F.io[i]? = some p→G.io[i]? = some p
mutual
theorem AVR.cut {P:Params} {m:Nat} {F F':FF} (h:Cut m F F'):∀ {v:Value} {a:AV},a.bd m→AVR P F v a→AVR P F' v a
 | _,.none,b,r=>by simpa only [AVR] using r
 | _,.bool _,b,r=>by simpa only [AVR] using r
 | _,.int _,b,r=>by simpa only [AVR] using r
 | _,.str _,b,r=>by simpa only [AVR] using r
 | _,.val _,b,r=>by simpa only [AVR] using r
 | _,.tup xs,b,r=>by
  simp only [AVR] at r ⊢
  simp only [AV.bd] at b
  obtain ⟨a,o,n,items,e1,e2,e3,e4,e5⟩:=r
  exact ⟨a,o,n,items,e1,h.1 _ _ e2,e3,e4,af.cut h b e5⟩
 | _,.lst xs,b,r=>by
  simp only [AVR] at r ⊢
  simp only [AV.bd] at b
  obtain ⟨a,n,items,e1,e2,e5⟩:=r
  exact ⟨a,n,items,e1,h.1 _ _ e2,af.cut h b e5⟩
 | _,.arg xs,b,r=>by
  simp only [AVR] at r ⊢
  simp only [AV.bd] at b
  obtain ⟨a,o,n,items,e1,e2,e3,e4,e5⟩:=r
  exact ⟨a,o,n,items,e1,h.1 _ _ e2,e3,e4,af.cut h b e5⟩
 | _,.cell i,b,r=>by
  simp only [AVR] at r ⊢
  simp only [AV.bd] at b
  obtain ⟨a,d,e1,e2⟩:=r
  exact ⟨a,d,h.2 _ _ b e1,e2⟩
 | _,.rng a b c,_,r=>by
  simp only [AVR] at r ⊢
  obtain ⟨x,t,u,w,e1,e2⟩:=r
  exact ⟨x,t,u,w,e1,h.1 _ _ e2⟩
 | _,.obj C ks as,b,r=>by
  simp only [AVR] at r ⊢
  simp only [AV.bd] at b
  obtain ⟨a,d,es,m,e1,e2,e3,e4,e5⟩:=r
  exact ⟨a,d,es,m,e1,h.1 _ _ e2,h.1 _ _ e3,e4,af.cut h b e5⟩
theorem af.cut {P:Params} {m:Nat} {F F':FF} (h:Cut m F F'):∀ {vs:List Value} {as:List AV},AV.bds m as→af P F vs as→af P F' vs as
 | _,[],b,r=>by simpa only [af] using r
 | _,a :: as,b,r=>by
  simp only [af] at r ⊢
  simp only [AV.bds] at b
  obtain ⟨v,r',e1,e2,e3⟩:=r
  exact ⟨v,r',e1,AVR.cut h b.1 e2,af.cut h b.2 e3⟩
end
theorem aX.cut {P:Params} {m:Nat} {F F':FF} (h:Cut m F F'):∀ {es:List DictEntry} {fs:List (Str × AV)},AV.bds m (fs.map (fun zz=>zz.2))→aX P F es fs→aX P F' es fs
 | _,[],b,r=>by simpa only [aX] using r
 | _,(k,a) :: as,b,r=>by
  simp only [aX] at r ⊢
  simp only [List.map_cons,AV.bds] at b
  obtain ⟨e,r',t,e1,e2,e3,e4,e5⟩:=r
  exact ⟨e,r',t,e1,e2,e3,AVR.cut h b.1 e4,aX.cut h b.2 e5⟩
theorem aX.bds {P:Params} {F:FF}:∀ {es:List DictEntry} {fs:List (Str × AV)},aX P F es fs→AV.bds F.io.length (fs.map (fun zz=>zz.2))
 | _,[],r=>by simp only [List.map_nil,AV.bds]
 | _,(k,a) :: as,r=>by
  simp only [aX] at r
  simp only [List.map_cons,AV.bds]
  obtain ⟨e,r',t,e1,e2,e3,e4,e5⟩:=r
  exact ⟨AVR.bd e4,aX.bds e5⟩
theorem bo.bd {P:Params} {F:FF} {h:Heap} {p:Addr × Addr} {c:Cell} (r:bo P F h p c):c.bd F.io.length:=by
 cases c with
 | list=>obtain ⟨q,o,n,items,e1,e2,e3,e4⟩:=r; exact e4.bds
 | inst=>obtain ⟨q,es,n,e1,e2,e3⟩:=r; exact e3.bds
 | dict=>obtain ⟨q,o,es,n,e1,e2,e3,e4⟩:=r; exact e4.bds
theorem bo.cut {P:Params} {m:Nat} {F F':FF} (h:Cut m F F') {hh:Heap} {p:Addr × Addr} {c:Cell} (b:c.bd m) (r:bo P F hh p c):bo P F' hh p c:=by
 cases c with
 | list=>obtain ⟨q,o,n,items,e1,e2,e3,e4,e5,e6⟩:=r; exact .mk q o n items e1 e2 e3 (e4.cut h b) e5 e6
 | inst=>obtain ⟨q,es,n,e1,e2,e3⟩:=r; exact .mk q es n e1 e2 (e3.cut h b)
 | dict=>obtain ⟨q,o,es,n,e1,e2,e3,e4,e5⟩:=r; exact .mk q o es n e1 e2 e3 (e4.cut h b) e5
theorem RelG.wf {B:Base} {hp:Heap} {F:FF} {H:HS} {s:Shared} (R:RelG B hp F H s):HWf H:=fun c hc=>by
 obtain ⟨i,hi,e⟩:=List.getElem_of_mem hc
 have hi':i < F.io.length:=by rw [R.hl]; exact hi
 rw [← R.hl]
 exact (R.hc i F.io[i] c (List.getElem?_eq_getElem hi') (by rw [List.getElem?_eq_getElem hi,e])).bd
theorem Bz {l:List (Addr × Addr)} {m:Nat}:(au (l.take m)).Sublist (au l):=by
 have:=b8 (l.take m) (l.drop m)
 rw [List.take_append_drop] at this
 rw [this]
 exact List.sublist_append_left _ _
theorem RelG.drop {B:Base} {hp:Heap} {F G:FF} {H J:HS} {s:Shared} (R:RelG B hp F (H++J) s) (hw:HWf H) (hio:G.io = F.io.take H.length) (hf:∀ a o,F.f a = some o→G.f a = some o)
  (hnew:∀ a o,G.f a = some o→F.f a = some o ∨ (a ∈ au (F.io.drop H.length)∧s.heap.get? a = some o)):RelG B hp G H s:=by
 have hlen:F.io.length = H.length + J.length:=by rw [R.hl,List.length_append]
 have cut:Cut H.length F G:=⟨hf,fun i p hi e=>by rw [hio,List.getElem?_take_of_lt hi]; exact e⟩
 have hsplit:au F.io = au (F.io.take H.length)++au (F.io.drop H.length):=by rw [← b8,List.take_append_drop]
 have hnd:=R.hn
 rw [hsplit] at hnd
 obtain ⟨n1,n2,n3⟩:=List.nodup_append.mp hnd
 have mem:∀ k,k ∈ au G.io→k ∈ au F.io:=fun k hk=>by rw [hio] at hk; rw [hsplit]; exact List.mem_append.mpr (.inl hk)
 refine ⟨fun a o e=>?_,fun a ha=>?_,fun a o e=>hf _ _ (R.fK a o e),by rw [hio,List.length_take]; lia,fun i p c h1 h2=>?_,by rw [hio]; exact n1,fun k hk=>R.hk k (mem k hk),R.kp,R.gd,R.eg,R.ed,R.eo⟩
 ·rcases hnew a o e with z | ⟨_,z⟩
  ·exact R.fr a o z
  ·exact z
 ·cases q:G.f a with
  | none=>rfl
  | some o =>
   rcases hnew a o q with z | ⟨z,_⟩
   ·rw [R.fk a (mem a ha)] at z; cases z
   ·rw [hio] at ha; exact absurd rfl (n3 a ha a z)
 ·have hi:i < H.length:=(List.getElem?_eq_some_iff.mp h2).1
  rw [hio,List.getElem?_take_of_lt hi] at h1
  exact (R.hc i p c h1 (by rw [List.getElem?_append_left hi]; exact h2)).cut cut (hw c (List.mem_of_getElem? h2))
theorem RelG.dropGrow {B:Base} {hp:Heap} {F₀ F G:FF} {H J:HS} {s:Shared} (R:RelG B hp F (H++J) s) (g:bk hp F₀ F) (hlen:F₀.io.length≤H.length) (hio:G.io = F.io.take H.length) (hf:∀ a o,F.f a = some o→G.f a = some o)
  (hnew:∀ a o,G.f a = some o→F.f a = some o ∨ (a ∈ au (F.io.drop H.length)∧s.heap.get? a = some o)):bk hp F₀ G:=by
 refine ⟨⟨fun a o e=>hf _ _ (g.1.1 a o e),fun i p e=>?_⟩,fun a o e=>?_⟩
 ·have hi:i < H.length:=Nat.lt_of_lt_of_le (List.getElem?_eq_some_iff.mp e).1 hlen
  rw [hio,List.getElem?_take_of_lt hi]
  exact g.1.2 i p e
 ·rcases hnew a o e with z | ⟨z,_⟩
  ·exact g.2 a o z
  ·refine .inr (R.hk a ?_).1
   rw [← List.take_append_drop H.length F.io,b8]
   exact List.mem_append.mpr (.inr z)
theorem RelF.drop {B:Base} {hp:Heap} {F₀ F G:FF} {H₀ H J:HS} {s₀ s:Shared} {sc:List (Str × NameKind)} {env:Env} {loc:Loc} (R₀:RelF B hp F₀ sc env loc H₀ s₀) (R:RelF B hp F sc env loc (H++J) s) (hl:H₀.length≤H.length) (hw:HWf H) (hio:G.io = F.io.take H.length) (hf:∀ a o,F.f a = some o→G.f a = some o)
  (hnew:∀ a o,G.f a = some o→F.f a = some o ∨ (a ∈ au (F.io.drop H.length)∧s.heap.get? a = some o)):RelF B hp G sc env loc H s:=by
 have cut:Cut H.length F G:=⟨hf,fun i p hi e=>by rw [hio,List.getElem?_take_of_lt hi]; exact e⟩
 have mem:∀ k,k ∈ au G.io→k ∈ au F.io:=fun k hk=>Bz.subset (by rw [hio] at hk; exact hk)
 have memd:∀ k,k ∈ au (F.io.drop H.length)→k ∈ au F.io:=fun k hk=>by
  rw [← List.take_append_drop H.length F.io,b8]
  exact List.mem_append.mpr (.inr hk)
 obtain ⟨m,hm,hx⟩:=R.ns
 obtain ⟨m₀,hm₀,hx₀⟩:=R₀.ns
 refine ⟨R.g.drop hw hio hf hnew,R.fk,R.eg,R.eb,R.gk,R.lk,R.nd,R.db,R.hL,?_,fun q=>R.kL (mem _ q),fun x c e=>let ⟨k1,k2,k3⟩:=R.cl x c e; ⟨k1,fun q=>k2 (mem _ q),k3⟩,m,hm,fun x a h=>?_⟩
 ·cases q:G.f env.locals with
  | none=>rfl
  | some o =>
   rcases hnew _ _ q with z | ⟨z,_⟩
   ·rw [R.fL] at z; cases z
   ·exact absurd (memd _ z) R.kL
 ·have b:a.bd H.length:=by
   have:a.bd F₀.io.length:=by
    rcases hx₀ x a h with ⟨_,v,_,r⟩ | ⟨_,c,o,v,_,_,_,r,_⟩ <;> exact r.bd
   rw [R₀.g.hl] at this
   exact this.le hl
  rcases hx x a h with ⟨k,v,hv,hr⟩ | ⟨k,c,o,v,h1,h2,h3,h4,h5,h6⟩
  ·exact .inl ⟨k,v,hv,hr.cut cut b⟩
  ·exact .inr ⟨k,c,o,v,h1,h2,h3,h4.cut cut b,h5,fun q=>h6 (mem _ q)⟩
noncomputable def FF.lay (F:FF) (m:Nat) (p:Addr × Addr) (h:Heap):FF:=⟨fun b=>if b = p.1 ∨ b = p.2 then h.get? b else F.f b,F.io.take m⟩
section
variable {B:Base} {hp:Heap} {F:FF} {H:HS} {s:Shared} {c:Cell}
theorem tj (R:RelG B hp F (H++[c]) s):∃ p,F.io[H.length]? = some p∧F.io.drop H.length = [p]∧bo B.w.params F s.heap p c:=by
 have hlen:F.io.length = H.length + 1:=by rw [R.hl,List.length_append]; rfl
 have hlt:H.length < F.io.length:=by lia
 refine ⟨F.io[H.length],List.getElem?_eq_getElem hlt,?_,R.hc _ _ _ (List.getElem?_eq_getElem hlt) (by simp)⟩
 rw [List.drop_eq_getElem_cons hlt]
 have:F.io.drop (H.length + 1) = []:=List.drop_eq_nil_of_le (by lia)
 rw [this]
set_option tactic.hygienic true in
theorem jG {p:Addr × Addr} (R:RelG B hp F (H++[c]) s) (hd:F.io.drop H.length = [p]) (hi:F.io[H.length]? = some p) :
  (∀ a o,F.f a = some o→(F.lay H.length p s.heap).f a = some o)∧(∀ a o,(F.lay H.length p s.heap).f a = some o→F.f a = some o ∨ (a ∈ au (F.io.drop H.length)∧s.heap.get? a = some o)):=by
 refine ⟨fun a o e=>?_,fun a o e=>?_⟩
 ·unfold FF.lay
  dsimp only
  split
  ·rename_i q
   have:=R.fk a (fg (List.mem_of_getElem? hi) q)
   rw [e] at this; cases this
  ·exact e
 ·unfold FF.lay at e
  dsimp only at e
  split at e
  ·rename_i q
   refine .inr ⟨?_,e⟩
   rw [hd]
   exact List.mem_append.mpr (.inl (aN.mpr q))
  ·exact .inl e
theorem KeysAre.of {P:Params}:∀ {es:List DictEntry} {fs:List (Str × AV)},aX P F es fs→KeysAre P es (fs.map (fun zz=>zz.1))∧af P F (es.map (fun zz=>zz.val)) (fs.map (fun zz=>zz.2))
 | _,[],r=>by simp only [aX] at r; subst r; exact ⟨trivial,.nil⟩
 | _,(k,a) :: fs,r=>by
  simp only [aX] at r
  obtain ⟨e,r',t,rfl,e2,e3,e4,e5⟩:=r
  obtain ⟨h1,h2⟩:=KeysAre.of e5
  exact ⟨⟨⟨t,e2⟩,e3,h1⟩,.cons e4 h2⟩
theorem qM {p:Addr × Addr} {xs:List AV} {v:Value} (hi:F.io[H.length]? = some p) (hc:bo B.w.params F s.heap p (.list xs)) (cut:Cut H.length F (F.lay H.length p s.heap)) (hb:AV.bds H.length xs) (hv:AVR B.w.params F v (.cell H.length)) :
  AVR B.w.params (F.lay H.length p s.heap) v (.lst xs):=by
 simp only [AVR] at hv ⊢
 obtain ⟨a,d,e1,rfl⟩:=hv
 rw [hi] at e1; cases e1
 obtain ⟨q,o,n,items,e1,e2,e3,e4,e5,e6⟩:=hc
 refine ⟨a,n,items,rfl,?_,e4.cut cut hb⟩
 show (if _ then _ else _) = _
 rw [if_pos (.inl rfl)]
 rw [e1]
 obtain ⟨c,d,dt,sl⟩:=o
 simp only at e2 e3 e5 e6
 subst e2 e3 e5 e6
 rfl
theorem z4 {p:Addr × Addr} {C:Addr} {fs:List (Str × AV)} {v:Value} (hi:F.io[H.length]? = some p) (hc:bo B.w.params F s.heap p (.inst C fs)) (cut:Cut H.length F (F.lay H.length p s.heap)) (hb:AV.bds H.length (fs.map (fun zz=>zz.2))) (hv:AVR B.w.params F v (.cell H.length)) :
  AVR B.w.params (F.lay H.length p s.heap) v (.obj C (fs.map (fun zz=>zz.1)) (fs.map (fun zz=>zz.2))):=by
 simp only [AVR] at hv ⊢
 obtain ⟨a,d,e1,rfl⟩:=hv
 rw [hi] at e1; cases e1
 obtain ⟨q,es,n,e1,e2,e3⟩:=hc
 refine ⟨a,d,es,n,rfl,?_,?_,(KeysAre.of e3).1,(KeysAre.of e3).2.cut cut hb⟩
 ·show (if _ then _ else _) = _
  rw [if_pos (.inl rfl)]
  exact e1
 ·show (if _ then _ else _) = _
  rw [if_pos (.inr rfl)]
  exact e2
end
theorem rH {F:FF} {m:Nat} {p:Addr × Addr} {h:Heap} (hf:∀ a o,F.f a = some o→(F.lay m p h).f a = some o):Cut m F (F.lay m p h):=⟨hf,fun i q hi e=>by
 show (F.io.take m)[i]? = _
 rw [List.getElem?_take_of_lt hi]; exact e⟩
end
section
set_option bootstrap.genMatcherCode false
section
variable {B:Base} {n:Nat} {H:HS} {sc:List (Str × NameKind)} {loc:Loc} {args:List AV}
theorem aJ.gc {g:Value} {Q:AV→HS→Prop} (h:HWf H→AV.bds H.length args→aJ B n g args H fun a H'=>∃ H2 J,H' = H2++J∧H.length≤H2.length∧HWf H2∧a.bd H2.length∧Q a H2):aJ B n g args H Q:=fun A hp F s vs hA R hv=>by
 have hb:=hv.bds
 rw [R.hl] at hb
 refine codeAny_mono (h R.wf hb A hp F s vs hA R hv) fun r s' z=>?_
 cases r with
 | error e=>exact z
 | ok fl =>
  cases fl with
  | ret v =>
   obtain ⟨F',b,H',g',R',hb',H2,J,rfl,hl,hw,ha,q⟩:=z
   have hf:∀ a o,F'.f a = some o→(⟨F'.f,F'.io.take H2.length⟩:FF).f a = some o:=fun zz zz e=>e
   have hn:∀ a o,(⟨F'.f,F'.io.take H2.length⟩:FF).f a = some o→F'.f a = some o ∨ (a ∈ au (F'.io.drop H2.length)∧s'.heap.get? a = some o):=fun zz zz e=>.inl e
   refine ⟨⟨F'.f,F'.io.take H2.length⟩,b,H2,R'.dropGrow g' (by rw [R.hl]; exact hl) rfl hf hn,R'.drop hw rfl hf hn,hb'.cut (m:=H2.length) ⟨hf,fun i p hi e=>?_⟩ ha,q⟩
   show (F'.io.take H2.length)[i]? = _
   rw [List.getElem?_take_of_lt hi]; exact e
  | _=>exact z
theorem aJ.pure {g:Value} {Q:AV→HS→Prop} (h:HWf H→AV.bds H.length args→aJ B n g args H fun a H'=>(∃ J,H' = H++J)∧a.bd H.length∧Q a H):aJ B n g args H Q :=
 aJ.gc fun hw hb A hp F s vs hA R hv=>codeAny_mono (h hw hb A hp F s vs hA R hv) fun r s' z=>by
  cases r with
  | error e=>exact z
  | ok fl =>
   cases fl with
   | ret v =>
    obtain ⟨F',b,H',g',R',hb',⟨J,rfl⟩,ha,q⟩:=z
    exact ⟨F',b,_,g',R',hb',H,J,rfl,Nat.le_refl _,hw,ha,q⟩
   | _=>exact z
theorem aJ.layI {g:Value} {Q:AV→HS→Prop} (h:HWf H→AV.bds H.length args→aJ B n g args H fun a H'=>∃ H2 C fs,a = .cell H2.length∧H' = H2++[.inst C fs]∧H.length≤H2.length∧HWf H2∧AV.bds H2.length (fs.map (fun zz=>zz.2))∧Q (.obj C (fs.map (fun zz=>zz.1)) (fs.map (fun zz=>zz.2))) H2):aJ B n g args H Q :=
 fun A hp F s vs hA R hv=>by
 have hb:=hv.bds
 rw [R.hl] at hb
 refine codeAny_mono (h R.wf hb A hp F s vs hA R hv) fun r s' z=>?_
 cases r with
 | error e=>exact z
 | ok fl =>
  cases fl with
  | ret v =>
   obtain ⟨F',b,H',g',R',hb',H2,C,fs,rfl,rfl,hl,hw,ha,q⟩:=z
   obtain ⟨p,hi,hd,hc⟩:=tj R'
   obtain ⟨hf,hn⟩:=jG R' hd hi
   exact ⟨F'.lay H2.length p s'.heap,_,H2,R'.dropGrow g' (by rw [R.hl]; exact hl) rfl hf hn,R'.drop hw rfl hf hn,z4 hi hc (rH hf) ha hb',q⟩
  | _=>exact z
theorem iO {e:Expr} {Q:AV→HS→Prop} (h:HWf H→EV B n sc loc H e fun a H'=>∃ H2 xs,a = .cell H2.length∧H' = H2++[.list xs]∧H.length≤H2.length∧HWf H2∧AV.bds H2.length xs∧Q (.lst xs) H2):EV B n sc loc H e Q:=fun A hp F s env hA R=>by
 refine wpAny_mono (h R.g.wf A hp F s env hA R) ?_ fun zz zz x=>x
 rintro v s' ⟨F',b,H',g',R',hb',H2,xs,rfl,rfl,hl,hw,ha,q⟩
 obtain ⟨p,hi,hd,hc⟩:=tj R'.g
 obtain ⟨hf,hn⟩:=jG R'.g hd hi
 exact ⟨F'.lay H2.length p s'.heap,_,H2,R'.g.dropGrow g' (by rw [R.g.hl]; exact hl) rfl hf hn,R.drop R' hl hw rfl hf hn,qM hi hc (rH hf) ha hb',q⟩
theorem ve {elts:List Expr} {pos:Pos} {Q:AV→HS→Prop} (h:EVs B n sc loc H pos elts fun as H1=>as.length≤100000∧Q (.lst as) H1):EV B n sc loc H (.List elts pos) Q:=fun A hp F s env hA R =>
 List_ (FV.then hA R h fun F1 vs as H1 s1 g1 R1 has q1=>by
  obtain ⟨hl,q⟩:=q1
  obtain ⟨g2,R2⟩:=uZ (tk:=s1.toks) (o:={ cls:=.type "list",data:=.seq vs.toArray }) R1 rfl
  refine wpAny_newObj_type ⟨_,_,H1,g1.trans g2,R2,?_,q⟩ (by show vs.toArray.size≤sizeLine; rw [List.size_toArray,af.len has]; exact ay hl)
  simp only [VR,AVR]
  exact ⟨_,0,vs,rfl,FF.put_self,af.mono g2.1 has⟩)
theorem RelG.obj {hp:Heap} {F:FF} {s:Shared} {v:Value} {C:Addr} {ks:List Str} {as:List AV} (R:RelG B hp F H s) (hv:AVR B.w.params F v (.obj C ks as)) :
  ∃ a d es m,v = .ref a∧F.f a = some (instObj C d)∧s.heap.get? a = some (instObj C d)∧s.heap.get? d = some (dictOf es m)∧KeysAre B.w.params es ks∧af B.w.params F (es.map (fun zz=>zz.val)) as:=by
 simp only [AVR] at hv
 obtain ⟨a,d,es,m,e1,e2,e3,e4,e5⟩:=hv
 exact ⟨a,d,es,m,e1,e2,R.fr _ _ e2,R.fr _ _ e3,e4,e5⟩
noncomputable def jK (x:Str):List Str→List AV→Option AV
 | k :: ks,a :: as=>if k == x then some a else jK x ks as
 | _,_=>none
theorem np {P:Params} {F:FF} {x:Str}:∀ {es:List DictEntry} {ks:List Str} {as:List AV},KeysAre P es ks→af P F (es.map (fun zz=>zz.val)) as →
  (∃ v a,getL x es = some (some v)∧jK x ks as = some a∧AVR P F v a) ∨ (getL x es = some none∧jK x ks as = none)
 | [],[],as,_,r=>.inr ⟨rfl,by simp [jK]⟩
 | e :: es,k :: ks,[],_,r=>by simp [af] at r
 | e :: es,k :: ks,a :: as,hk,r=>by
  simp only [List.map_cons,af] at r
  obtain ⟨v,r',e1,e3,e4⟩:=r
  injection e1 with e1 e2
  subst e1 e2
  obtain ⟨⟨t,e1⟩,e2,hk'⟩:=hk
  have hs:e.key.isStr x = (k == x):=by rw [e1]; rfl
  have hrk:e.refKey = false:=by unfold DictEntry.refKey; rw [e1]
  unfold getL jK
  rw [List.find?_cons,hs]
  cases q:k == x with
  | true=>exact .inl ⟨e.val,a,rfl,by simp,e3⟩
  | false =>
   have:=np (x:=x) hk' e4
   unfold getL at this
   simp only [List.any_cons,hrk,Bool.false_or]
   exact this
 | [],k :: ks,_,hk,_=>hk.elim
 | e :: es,[],_,hk,_=>hk.elim
theorem U3 {C:Addr} {ks:List Str} {as:List AV} {x:Str} {a:AV} {attr:Option Value} {Q:AV→HS→Prop} (hg:plainGet B.K C x = true) (hh:hasDictIn B.K C = true) (ha:findIn B.K (.ref C) x = some attr) (hn:noGet B.K attr = true)
  (hf:jK x ks as = some a) (hd:aZ a = true) (h:Q a H):fN B n (.obj C ks as) x H Q:=fun A hp F s vs hA R hv=>by
 refine E1 hv fun v hv1=>?_
 obtain ⟨p,d,es,m,rfl,_,e1,e2,e3,e4⟩:=R.obj hv1
 rcases np (x:=x) e3 e4 with ⟨w,a',g1,g2,g3⟩ | ⟨g1,g2⟩
 ·rw [hf] at g2; cases g2
  exact get_value R.good.X (dp (p:=(p,d)) e1 e2) (plainGet_of hg).1 (findObj_own hh ha hn g1) (qU g3 hd) (ok R.toks g3 h)
 ·rw [hf] at g2; cases g2
theorem WO {C f:Addr} {ks:List Str} {as:List AV} {x:Str} {Q:Value × List AV→HS→Prop} (hg:plainGet B.K C x = true) (hf:findIn B.K (.ref C) x = some (some (.ref f))) (ht:isFn B.K (.ref f) = true) (hl:jK x ks as = none)
  (h:Q (.ref f,[.obj C ks as]) H):ee B n (.obj C ks as) x H Q:=fun pl A hp F s vs hA R hv=>by
 refine E1 hv fun v hv1=>?_
 obtain ⟨p,d,es,m,rfl,_,e1,e2,e3,e4⟩:=R.obj hv1
 rcases np (x:=x) e3 e4 with ⟨w,a',g1,g2,g3⟩ | ⟨g1,g2⟩
 ·rw [hl] at g2; cases g2
 ·refine method_fn R.good.X (dp (p:=(p,d)) e1 e2) (plainGet_of hg).1 (plainGet_of hg).2 hf (beq_iff_eq.mp ht) (by show (lookIn x (dictOf es m)).map _ = _; rw [lookIn_dict,g1]; rfl) ?_
  exact ⟨F,(.ref f,[.obj C ks as]),H,.refl,R,⟨rfl,one hv1⟩,h⟩
end
end
section
set_option bootstrap.genMatcherCode false
open PySem PySem.W PySem.Calls PyProof.Rows PySem.Builtin PySem.Builtin.Str
noncomputable def LS (H:HS) (x:AV) (xs:List AV):Prop:=x = .lst xs ∨ x = .arg xs ∨ ∃ k,x = .cell k∧H[k]? = some (.list xs)
theorem LS.lst {H:HS} {xs:List AV}:LS H (.lst xs) xs:=.inl rfl
theorem LS.arg {H:HS} {xs:List AV}:LS H (.arg xs) xs:=.inr (.inl rfl)
theorem LS.cell {H:HS} {xs:List AV} {k:Nat} (h:H[k]? = some (.list xs)):LS H (.cell k) xs:=.inr (.inr ⟨k,rfl,h⟩)
section
variable {B:Base} {n:Nat} {H:HS} {Q:AV→HS→Prop}
inductive LSO (P:Params) (F:FF) (h:Heap) (xs:List AV) (a:Addr):Prop
 | mk (o:Obj) (m:Nat) (items:List Value) (e1:h.get? a = some o) (e2:o.cls = .type "list") (e3:o.data = .seq ⟨items⟩ m) (e4:af P F items xs)
theorem LS.at' {hp:Heap} {F:FF} {s:Shared} {x:AV} {xs:List AV} {v:Value} (h:LS H x xs) (R:RelG B hp F H s) (hv:AVR B.w.params F v x):∃ a,v = .ref a∧LSO B.w.params F s.heap xs a:=by
 rcases h with rfl | rfl | ⟨k,rfl,hk⟩
 ·simp only [AVR] at hv
  obtain ⟨a,m,items,rfl,e2,e5⟩:=hv
  exact ⟨a,rfl,_,m,items,R.fr _ _ e2,rfl,rfl,e5⟩
 ·simp only [AVR] at hv
  obtain ⟨a,o,m,items,rfl,e2,e3,e4,e5⟩:=hv
  exact ⟨a,rfl,o,m,items,R.fr _ _ e2,e3,e4,e5⟩
 ·refine R.cell hv hk fun p hpi hc=>?_
  obtain ⟨hq,o,m,items,e2,e3,e4,e5⟩:=hc
  exact ⟨p.1,rfl,o,m,items,e2,e3,e4,e5⟩
@[elab_as_elim] theorem LS.at {hp:Heap} {F:FF} {s:Shared} {x:AV} {xs:List AV} {v:Value} {p:Value→Prop} (h:LS H x xs) (R:RelG B hp F H s) (hv:AVR B.w.params F v x)
  (k:∀ a o m items,s.heap.get? a = some o→o.cls = .type "list"→o.data = .seq ⟨items⟩ m→af B.w.params F items xs→p (.ref a)):p v:=by
 obtain ⟨a,rfl,o,m,items,e1,e2,e3,e4⟩:=h.at' R hv
 exact k a o m items e1 e2 e3 e4
theorem LS.atR {hp:Heap} {F:FF} {s:Shared} {x:AV} {xs:List AV} {a:Addr} (h:LS H x xs) (R:RelG B hp F H s) (hv:AVR B.w.params F (.ref a) x):LSO B.w.params F s.heap xs a:=by
 obtain ⟨b,e,r⟩:=h.at' R hv
 cases e; exact r
theorem Dp {x:AV} {xs:List AV} (hx:LS H x xs) (hz:xs.length≤100000) (h:Q (.int xs.length) H):ac B n (.builtin "len") [x] H Q:=fun A hp F s vs hA R hv=>by
 refine E1 hv fun v h1=>?_
 refine hx.at R h1 fun a o m items e1 e2 e3 e4=>?_
 have e:(items.toArray.size:Int) = xs.length:=by rw [List.size_toArray,e4.len]
 refine PySem.Calls.call_len_list (items:=⟨items⟩) ⟨o,e1,e2,m,e3⟩ (by show ((items.toArray).size:Int) < _; rw [e]; lia) ?_
 show EG _ _ _ _ _ _ _
 have:=ok (R.toks (tk:=s.toks + 1 + 1)) (RV:=VR B) (v:=.int xs.length (s.toks + 1)) ax h
 rw [← e] at this
 exact this
noncomputable abbrev md (slice:Expr):Prop:=∀ ov iv,subscripted slice false ov iv = operate [ov,iv] (getItem ov iv)
theorem bn {value slice:Expr} {x:AV} {xs:List AV} {i:Int} {a:AV} (hx:LS H x xs) (h0:0≤i) (h1:i < 2 ^ 63) (ha:xs[i.toNat]? = some a) (h:Q a H) (hs:autoParam (md slice) bD):jS B n value slice x (.int i) H Q:=fun A hp F s vs hA R hv=>by
 refine E2 hv fun v w hv1 hv2=>?_
 refine hx.at R hv1 fun p o m items e1 e2 e3 e4=>?_
 refine Ei hv2 fun t=>?_
 obtain ⟨u,hu,hr⟩:=e4.at _ ha
 have hl:s.heap.IsList p ⟨items⟩:=⟨o,e1,e2,m,e3⟩
 exact tail_any hl.typeIs slot_list_getitem.lookup (wpAny_getItem_list hl h0 h1 (by simpa using hu) (ok R hr h)) (hs _ _)
theorem fi {value slice:Expr} {x:AV} {xs:List AV} {i:Int} {a:AV} (hx:LS H x xs) (h0:i < 0) (h1:-(xs.length:Int)≤i) (h2:-(2 ^ 63)≤i) (ha:xs[(i + xs.length).toNat]? = some a) (h:Q a H) (hs:autoParam (md slice) bD):jS B n value slice x (.int i) H Q:=fun A hp F s vs hA R hv=>by
 refine E2 hv fun v w hv1 hv2=>?_
 refine hx.at R hv1 fun p o m items e1 e2 e3 e4=>?_
 refine Ei hv2 fun t=>?_
 obtain ⟨u,hu,hr⟩:=e4.at _ ha
 have hl:s.heap.IsList p ⟨items⟩:=⟨o,e1,e2,m,e3⟩
 have hz:((⟨items⟩:Array Value).size:Int) = xs.length:=by show (items.length:Int) = _; rw [e4.len]
 refine tail_any hl.typeIs slot_list_getitem.lookup (wpAny_getItem_list_neg hl h0 (by rw [hz]; exact h1) h2 (x:=u) ?_ (ok R hr h)) (hs _ _)
 rw [hz]; simpa using hu
theorem Zo {value slice:Expr} {xs:List AV} {i:Int} {j:Nat} {a:AV} (h0:-2 ^ 63≤i) (h1:i < 2 ^ 63) (hj:seqIndex? i xs.length = some j) (hx:xs[j]? = some a) (h:Q a H) (hs:autoParam (md slice) bD):jS B n value slice (.tup xs) (.int i) H Q:=fun A hp F s vs hA R hv=>by
 refine E2 hv fun v w hv1 hv2=>?_
 refine hv1.etup R.fr fun t items ht e4=>?_
 refine Ei hv2 fun u=>?_
 obtain ⟨x,hu,hr⟩:=e4.at _ hx
 exact PyProof.Rows.item_tupleT (l:=items) ht h0 h1 (by rw [e4.len]; exact hj) hu (ok R hr h) (hs _ _)
theorem bR {value slice:Expr} {x:List Nat} {i:Int} {c:Nat} (h0:0≤i) (h1:i < 2 ^ 62) (hc:x[i.toNat]? = some c) (h:Q (.str [c]) H) (hs:autoParam (md slice) bD):jS B n value slice (.str x) (.int i) H Q:=fun A hp F s vs hA R hv=>by
 refine E2 hv fun v w hv1 hv2=>?_
 refine Es hv1 fun t=>?_; refine Ei hv2 fun u=>?_
 have hlen:Str.length ⟨x.toArray⟩ = x.length:=by show x.toArray.size = _; simp
 have hlt:i.toNat < x.length:=(List.getElem?_eq_some_iff.mp hc).1
 obtain ⟨T,id,hl,hT,hg⟩:=SB.item (prog:=B.prog) (w:=B.w) (A:=A) (E:=NoE) (s:=s) (x:=⟨x.toArray⟩) (t:=t) (i:=i) (u:=u) (Q:=EG B hp F (VR B) Q)
  (fitsSsize_of (N:=9223372036854775808) (by lia) (by lia) (Int.le_refl _)) (charAt_isSome (by rw [hlen]; lia) (by rw [hlen]; lia))
  (by
   have:Txt.item ⟨x.toArray⟩ i = ⟨[c].toArray⟩:=item_meets h0 (by simpa using hc)
   rw [this]
   exact ok R.toks cy h)
 exact tail_any hT hl hg (hs _ _)
theorem mF {A:Around} {s:Shared} {T:String} {vs:List Value} {P:Value→Shared→Prop} (h:P (.ref s.heap.objs.size) { s with heap:=s.heap.push { cls:=.type T,data:=.fields vs.toArray } }) (hz:vs.length≤100:=by simp):wpAny (model B.prog B.w) A (newFields T vs) P NoE s:=by
 unfold newFields
 exact wpAny_newObj_type h (by have:=ay (k:=vs.length) (by lia); simp [sizeOk]; lia)
inductive IsPt:AV→Option Int→Prop
 | none:IsPt .none none
 | int (i:Int):IsPt (.int i) (some i)
theorem IsPt.part {P:Params} {F:FF} {v:Value} {a:AV} {o:Option Int} (h:IsPt a o) (hv:AVR P F v a):IsPart v o:=by
 cases h with
 | none=>refine En hv ?_; exact .none
 | int i=>refine Ei hv fun t=>?_; exact .int i t
theorem IsPt.partV {P:Params} {F:FF} {v:Value} {a:AV} {o:Option Int} (h:IsPt a o) (hv:AVR P F v a):∃ p:Option (Int × Tok),v = partValue p∧p.map (fun zz=>zz.1) = o:=by
 cases h with
 | none=>refine En hv ?_; exact ⟨Option.none,rfl,rfl⟩
 | int i=>refine Ei hv fun t=>?_; exact ⟨Option.some (i,t),rfl,rfl⟩
theorem af.picks {P:Params} {F:FF} {vs:List Value} {xs:List AV} (h:af P F vs xs):∀ js:List Nat,af P F (js.filterMap (vs[·]?)) (js.filterMap (xs[·]?))
 | []=>by simp [af]
 | j :: js=>by
  have ih:=af.picks h js
  cases hn:xs[j]? with
  | some n =>
   obtain ⟨v,hv,hr⟩:=h.at j hn
   simp only [List.filterMap_cons,hn,hv]
   exact .cons hr ih
  | none =>
   have hv:vs[j]? = none:=by
    rw [List.getElem?_eq_none_iff] at hn ⊢
    rw [h.len]; exact hn
   simp only [List.filterMap_cons,hn,hv]
   exact ih
noncomputable def mE (xs:List AV) (lo hi st:Option Int):List AV:=(sliceRange (sliceBounds lo hi st xs.length).1 (sliceBounds lo hi st xs.length).2.1 (sliceBounds lo hi st xs.length).2.2).filterMap (xs[·]?)
theorem ma {value slice:Expr} {x l u t:AV} {xs:List AV} {lo hi st:Option Int} (hx:LS H x xs) (hz:xs.length≤100000) (pl:IsPt l lo) (pu:IsPt u hi) (pt:IsPt t st) (h0:st ≠ some 0) (h:Q (.lst (mE xs lo hi st)) H)
  (hs:autoParam (∀ ov iv,∃ ops,subscripted slice false ov iv = operate ops (getItem ov iv)) Br):yy B n value slice x l u t H Q:=fun A hp F s vo vl vu vt hA R ho hl hu ht=>by
 refine hx.at R ho fun p o m items e1 e2 e3 e4=>?_
 refine mF ?_
 have hL:s.heap.IsList p ⟨items⟩:=⟨o,e1,e2,m,e3⟩
 obtain ⟨ops,hs'⟩:=hs (.ref p) (.ref s.heap.objs.size)
 have hw:(⟨items⟩:Array Value).size≤sizeLine:=by show items.length≤sizeLine; rw [e4.len]; exact ay hz
 obtain ⟨g1,R1⟩:=R.put (tk:=s.toks) (o:={ cls:=.type "slice",data:=.fields [vl,vu,vt].toArray }) rfl
 refine tail_any (T:="list") (Heap.IsList.typeIs (s:={ s with heap:=s.heap.push { cls:=.type "slice",data:=.fields [vl,vu,vt].toArray } }) (hL.push _)) list_getitem_lookup
  (wpAny_getItem_list_slice (hL.push _) (Heap.IsSliceOf.new ..) (pl.part hl) (pu.part hu) (pt.part ht) h0 ?_ hw) hs'
 obtain ⟨g2,R2⟩:=R1.put (tk:=s.toks) (o:={ cls:=.type "list",data:=.seq (slicePick ⟨items⟩ lo hi st) }) rfl
 refine ⟨_,_,H,g1.trans g2,R2,?_,h⟩
 simp only [VR,AVR]
 refine ⟨_,0,(slicePick ⟨items⟩ lo hi st).toList,rfl,FF.put_self,?_⟩
 have:(slicePick ⟨items⟩ lo hi st).toList = (sliceRange (sliceBounds lo hi st xs.length).1 (sliceBounds lo hi st xs.length).2.1 (sliceBounds lo hi st xs.length).2.2).filterMap (items[·]?):=by
  simp [slicePick,e4.len]
 rw [this]
 exact (e4.picks _).mono (g1.trans g2).1
theorem zi {xs:List AV}:mE xs none none (some (-1)) = xs.reverse:=by
 unfold mE
 rw [krv_bounds]
 show (sliceRange ((xs.length:Int) - 1) (-1) (-1)).filterMap (xs[·]?) = _
 rw [krv_sliceRange,krv_range,List.filterMap_reverse]
 congr 1
 have h:=pick_run xs.toArray 0 xs.length
 simpa using h
theorem Xn (i n:Nat):max (0:Int) (min (if Int.ofNat i < 0 then Int.ofNat i + (n:Int) else Int.ofNat i) n) = ((min i n:Nat):Int):=by
 rw [if_neg (Int.not_lt.mpr (Int.natCast_nonneg i):¬ Int.ofNat i < 0)]
 show max (0:Int) (min (i:Int) n) = _
 lia
theorem y2 (n d:Nat) (hd:d≤n) (o:Option Nat):(match o.map Int.ofNat with | none=>(d:Int) | some i=>max (0:Int) (min (if i < 0 then i + (n:Int) else i) n)) = ((min (o.getD d) n:Nat):Int):=by
 cases o with
 | none=>exact congrArg Int.ofNat (Nat.min_eq_left hd).symm
 | some i=>exact Xn i n
theorem kl {α:Type} (x:List α) (a b:Nat):(x.drop (min a x.length)).take (min b x.length - min a x.length) = (x.drop a).take (b - a):=by
 by_cases h:a≤x.length
 ·rw [Nat.min_eq_left h,← Nat.sub_min_sub_right,List.take_eq_take_min (i:=b - a),List.length_drop]
 ·have h:=Nat.le_of_not_le h
  rw [Nat.min_eq_right h,List.drop_eq_nil_of_le h,List.drop_eq_nil_of_le (Nat.le_refl _),List.take_nil,List.take_nil]
theorem qJ {xs:List AV} (lo hi:Option Nat):mE xs (lo.map Int.ofNat) (hi.map Int.ofNat) none = (xs.drop (lo.getD 0)).take (hi.getD xs.length - lo.getD 0):=by
 have e:sliceBounds (lo.map Int.ofNat) (hi.map Int.ofNat) none xs.length = (((min (lo.getD 0) xs.length:Nat):Int),((min (hi.getD xs.length) xs.length:Nat):Int),1):=by
  rw [← y2 _ _ (Nat.zero_le _) lo,← y2 _ _ (Nat.le_refl _) hi]; rfl
 unfold mE
 rw [e]
 show (sliceRange _ _ 1).filterMap _ = _
 rw [sliceRange_one,← kl]
 have h:=pick_run xs.toArray (min (lo.getD 0) xs.length) (min (hi.getD xs.length) xs.length - min (lo.getD 0) xs.length)
 simp only [List.getElem?_toArray] at h
 exact h
theorem oz {xs:List AV} {b:Nat}:mE xs none (some b) none = xs.take b:=qJ none (some b)
theorem xD {xs:List AV} {a:Nat}:mE xs (some a) none none = xs.drop a:=(qJ (some a) none).trans (List.take_of_length_le (by rw [List.length_drop]; exact Nat.le_refl _))
noncomputable def bh (x:List Nat) (lo hi:Option Nat):List Nat:=(x.drop (lo.getD 0)).take ((hi.getD x.length) - lo.getD 0)
theorem LP (lo hi:Option Nat) (n:Nat):strSliceIndices (lo.map Int.ofNat) (hi.map Int.ofNat) 1 n = (List.range (min (hi.getD n) n - min (lo.getD 0) n)).map (min (lo.getD 0) n + ·):=by
 rw [← sliceRange_one,← y2 _ _ (Nat.zero_le _) lo,← y2 _ _ (Nat.le_refl _) hi]; rfl
theorem Fx {x:List Nat} (lo hi:Option Nat):(strSliceIndices (lo.map Int.ofNat) (hi.map Int.ofNat) 1 x.length).filterMap (x[·]?) = bh x lo hi:=by
 rw [LP]
 have h:=pick_run x.toArray (min (lo.getD 0) x.length) (min (hi.getD x.length) x.length - min (lo.getD 0) x.length)
 simp only [List.getElem?_toArray] at h
 exact h.trans (kl _ _ _)
theorem z0 {a b n:Nat} (h:a - b = n) (h1:a≤n) (h2:b≤n):b = 0:=by lia
theorem AP {x:List Nat} {lo hi:Option Nat} (h:(strSliceIndices (lo.map Int.ofNat) (hi.map Int.ofNat) 1 x.length).length = x.length):bh x lo hi = x:=by
 rw [LP,List.length_map,List.length_range] at h
 unfold bh
 rw [← kl,h,z0 h (Nat.min_le_right _ _) (Nat.min_le_right _ _),List.drop_zero,List.take_of_length_le (Nat.le_refl _)]
theorem FQ (x:List Nat) (lo hi:Option Nat):(bh x lo hi).length≤x.length:=Nat.le_trans (List.length_take_le' ..) (by rw [List.length_drop]; exact Nat.sub_le _ _)
set_option tactic.hygienic true in
theorem YB {value slice:Expr} {x:List Nat} {l u:AV} {lo hi:Option Nat} (hz:x.length≤100000) (pl:IsPt l (lo.map Int.ofNat)) (pu:IsPt u (hi.map Int.ofNat)) (h:Q (.str (bh x lo hi)) H)
  (hs:autoParam (∀ ov iv,∃ ops,subscripted slice false ov iv = operate ops (getItem ov iv)) Br):yy B n value slice (.str x) l u .none H Q:=fun A hp F s vo vl vu vt hA R ho hl hu ht=>by
 refine Es ho fun t=>?_
 refine En ht ?_
 obtain ⟨p1,rfl,hp1⟩:=pl.partV hl
 obtain ⟨p2,rfl,hp2⟩:=pu.partV hu
 refine mF ?_
 obtain ⟨ops,hs'⟩:=hs (.str ⟨x.toArray⟩ t) (.ref s.heap.objs.size)
 obtain ⟨g1,R1⟩:=R.put (tk:=s.toks) (o:={ cls:=.type "slice",data:=.fields [partValue p1,partValue p2,.none].toArray }) rfl
 have hlen:Str.length ⟨x.toArray⟩ = x.length:=by show x.toArray.size = _; simp
 have hpick:=Fx (x:=x) lo hi
 have fin:∀ t' k,EG B hp F (VR B) Q (.str ⟨(bh x lo hi).toArray⟩ t') { s with heap:=s.heap.push { cls:=.type "slice",data:=.fields [partValue p1,partValue p2,.none].toArray },toks:=k }:=fun t' k =>
  ⟨_,_,H,g1,R1.toks,cy,h⟩
 refine tail_any (T:="str") (typeIs_str _ _ _) PySem.F.slot_str_getitem.lookup (wpAny_getItem_str_slice (l:=p1) (u:=p2) (st:=none) ⟨_,Heap.get?_push_size _ rfl,rfl,rfl⟩ rfl ?_) hs'
 have e1:slicePicked ⟨x.toArray⟩ p1 p2 none = strSliceIndices (lo.map Int.ofNat) (hi.map Int.ofNat) 1 x.length:=by
  unfold slicePicked
  rw [hp1,hp2,hlen]; rfl
 unfold sliceMade
 rw [e1,hlen]
 have e2:(strSliceIndices (lo.map Int.ofNat) (hi.map Int.ofNat) 1 x.length).filterMap ((⟨x.toArray⟩:Str).cps[·]?) = bh x lo hi:=by
  rw [← hpick]; simp
 rw [e2]
 split
 ·rename_i hc
  have:bh x lo hi = x:=AP (by
   simp only [Option.map_none,Option.getD_none,Bool.and_eq_true,beq_iff_eq] at hc; exact hc.2)
  have f:=fin t s.toks
  rw [this] at f h
  exact f
 ·exact ⟨by show (bh x lo hi).toArray.size≤sizeLine; rw [List.size_toArray]; exact ay (Nat.le_trans (FQ ..) hz),fin _ _⟩
end
end
section
set_option bootstrap.genMatcherCode false
open PySem PySem.W PySem.Calls PyProof.Rows PySem.Builtin PySem.Builtin.Str
section
variable {B:Base} {n:Nat} {H:HS} {Q:AV→HS→Prop}
noncomputable def ca (B:Base) (H:HS) (x:AV) (D:Addr):Prop :=
 (∃ i fs,x = .cell i∧H[i]? = some (.inst D fs)) ∨ (∃ ks vs,x = .obj D ks vs) ∨ (∃ a d o od,x = .val (.ref a)∧B.K.lookup a = some o∧o.cls = .ref D∧notCls o = true∧o.dict = some d∧B.K.lookup d = some od)
theorem ca.cell {i:Nat} {D:Addr} {fs:List (Str × AV)} (h:H[i]? = some (.inst D fs)):ca B H (.cell i) D:=.inl ⟨i,fs,rfl,h⟩
theorem ca.obj {D:Addr} {ks:List Str} {vs:List AV}:ca B H (.obj D ks vs) D:=.inr (.inl ⟨ks,vs,rfl⟩)
theorem ca.inst {hp:Heap} {F:FF} {s:Shared} {x:AV} {D:Addr} {v:Value} (h:ca B H x D) (R:RelG B hp F H s) (hv:AVR B.w.params F v x):∃ p ox od,v = .ref p∧InstAt s.heap p ox D (some od):=by
 rcases h with ⟨i,fs,rfl,hi⟩ | ⟨ks,vs,rfl⟩ | ⟨a,d,o,od,rfl,h1,h2,h3,h4,h5⟩
 ·refine R.cell hv hi fun p hpi hc=>?_; obtain ⟨q,es,m,e1,e2,e3⟩:=hc
  exact ⟨p.1,_,_,rfl,dp e1 e2⟩
 ·obtain ⟨p,d,es,m,rfl,_,e1,e2,e3,e4⟩:=R.obj hv
  exact ⟨p,_,_,rfl,dp (p:=(p,d)) e1 e2⟩
 ·refine Ev hv ?_
  exact ⟨a,o,od,rfl,R.good.X _ _ h1,h2,h3,by rw [h4]; exact R.good.X _ _ h5⟩
structure ClsIs (K:Frag) (D:Addr):Prop where
 get:plainGet K D "__class__" = true
 dict:hasDictIn K D = true
 cls:findIn K (.ref D) "__class__" = some (some (.builtin "object.__class__"))
 spec:specialIn K (.builtin "object.__class__") "__get__" = some (some (.builtin "getset_descriptor.__get__"))
 takes:takesIn K (.builtin "object.__class__") = some true
 obj:mroIn K D (.type "object") = some true
theorem Tp {x:AV} {D C:Addr} (hx:ca B H x D) (e:isIn B.K (.ref D) C = true) (h:Q (.bool true) H):ac B n (.builtin "isinstance") [x,.val (.ref C)] H Q:=fun A hp F s vs hA R hv=>by
 refine E2 hv fun v w h1 h2=>?_
 refine Ev h2 ?_
 obtain ⟨p,ox,od,rfl,I⟩:=hx.inst R h1
 exact isi_call R.good.X (fun M=>I.type) e (by intro q; cases q) (ok R ak h)
theorem Uy {x:AV} {D C:Addr} (hx:ca B H x D) (hc:ClsIs B.K D) (e:kin_not B.K D C = true) (h:Q (.bool false) H):ac B n (.builtin "isinstance") [x,.val (.ref C)] H Q:=fun A hp F s vs hA R hv=>by
 refine E2 hv fun v w h1 h2=>?_
 refine Ev h2 ?_
 obtain ⟨p,ox,od,rfl,I⟩:=hx.inst R h1
 exact kin_callC R.good.X I e hc.get hc.dict hc.cls hc.spec hc.takes hc.obj (ok (R.toks (tk:=s.toks + 1)) ak h)
theorem PZ {x:AV} {D:Addr} {T:String} (hx:ca B H x D) (hc:ClsIs B.K D) (e:kin_notT B.K D T = true) (hty:typeOf (.type T) = pure (.type "type")) (h:Q (.bool false) H):ac B n (.builtin "isinstance") [x,.val (.type T)] H Q:=fun A hp F s vs hA R hv=>by
 refine E2 hv fun v w h1 h2=>?_
 refine Ev h2 ?_
 obtain ⟨p,ox,od,rfl,I⟩:=hx.inst R h1
 exact kin_callT R.good.X I e hty hc.get hc.dict hc.cls hc.spec hc.takes hc.obj (ok (R.toks (tk:=s.toks + 1)) ak h)
theorem F9 {i:Int} {C:Addr} (e:isNotIn B.K "int" C = true) (h:Q (.bool false) H):ac B n (.builtin "isinstance") [.int i,.val (.ref C)] H Q:=fun A hp F s vs hA R hv=>by
 refine E2 hv fun v w h1 h2=>?_
 refine Ev h2 ?_
 refine Ei h1 fun t=>?_
 exact isn_call (P:=fun zz=>True) R.good.X (fun M=>Looks.of_pure rfl) e (by intro q; cases q) trivial int_cls (ok (R.toks (tk:=s.toks + 1)) ak h)
theorem Bf {b:Bool} {C:Addr} (e:isNotIn B.K "bool" C = true) (h:Q (.bool false) H):ac B n (.builtin "isinstance") [.bool b,.val (.ref C)] H Q:=fun A hp F s vs hA R hv=>by
 refine E2 hv fun v w h1 h2=>?_
 refine Ev h2 ?_
 refine Eb h1 ?_
 exact isn_call (P:=fun zz=>True) R.good.X (fun M=>Looks.of_pure rfl) e (by intro q; cases q) trivial bool_cls (ok (R.toks (tk:=s.toks + 1)) ak h)
theorem NO:typeOf (.type "int") = pure (.type "type"):=by kernel_rfl
theorem rJ:typeOf (.type "bool") = pure (.type "type"):=by kernel_rfl
theorem gF {b:Bool} (h:Q (.bool true) H):ac B n (.builtin "isinstance") [.bool b,.val (.type "bool")] H Q:=fun A hp F s vs hA R hv=>by
 refine E2 hv fun v w h1 h2=>?_
 refine Ev h2 ?_
 refine Eb h1 ?_
 exact call_isinstance (isinstance_true (Tx:="bool") (T:="bool") rJ (by rw [isSubtype_type]; kernel_rfl)) ⟨rfl,ok R ak h⟩
theorem uq {i:Int} (h:Q (.bool true) H):ac B n (.builtin "isinstance") [.int i,.val (.type "int")] H Q:=fun A hp F s vs hA R hv=>by
 refine E2 hv fun v w h1 h2=>?_
 refine Ev h2 ?_
 refine Ei h1 fun t=>?_
 exact call_isinstance (isinstance_true (Tx:="int") (T:="int") NO (by rw [isSubtype_type]; kernel_rfl)) ⟨rfl,ok R ak h⟩
theorem i6 {i:Int} (h:Q (.bool false) H):ac B n (.builtin "isinstance") [.int i,.val (.type "bool")] H Q:=fun A hp F s vs hA R hv=>by
 refine E2 hv fun v w h1 h2=>?_
 refine Ev h2 ?_
 refine Ei h1 fun t=>?_
 exact call_isinstance (isinstance_false_int (T:="bool") (by decide +kernel) rJ (by rw [isSubtype_type]; kernel_rfl)) (ok (R.toks (tk:=s.toks + 1)) ak h)
theorem gZ {i:Int} {a:Addr} (h:Q (.bool false) H):CMP B n .Is (.int i) (.val (.ref a)) H Q:=fun A hp F s vs hA R hv=>by
 refine E2 hv fun v w h1 h2=>?_
 refine Ev h2 ?_
 refine Ei h1 fun t=>?_
 exact wpAny_is_other rfl (by intro q; cases q) (ok R ak h)
theorem fv {b:Bool} {a:Addr} (h:Q (.bool false) H):CMP B n .Is (.bool b) (.val (.ref a)) H Q:=fun A hp F s vs hA R hv=>by
 refine E2 hv fun v w h1 h2=>?_
 refine Ev h2 ?_
 refine Eb h1 ?_
 exact wpAny_is_other rfl (by intro q; cases q) (ok R ak h)
theorem uH {C:Addr} {ks:List Str} {as:List AV} {a:Addr} {o:Obj} (hK:B.K.lookup a = some o) (hne:o.cls ≠ .ref C) (h:Q (.bool false) H):CMP B n .Is (.obj C ks as) (.val (.ref a)) H Q:=fun A hp F s vs hA R hv=>by
 refine E2 hv fun v w h1 h2=>?_
 refine Ev h2 ?_
 obtain ⟨p,d,es,m,rfl,_,e1,e2,e3,e4⟩:=R.obj h1
 have e5:=R.good.X _ _ hK
 exact wpAny_is_ref_other (fun q=>by subst q; rw [e1] at e5; cases e5; exact hne rfl) e1 e5 (by intro q; cases q) (ok R ak h)
theorem wD {a b:Addr} {o o':Obj} (hab:a ≠ b) (hK:B.K.lookup a = some o) (hK':B.K.lookup b = some o') (hne:o.cls ≠ .type "tuple") (h:Q (.bool false) H):CMP B n .Is (.val (.ref a)) (.val (.ref b)) H Q:=fun A hp F s vs hA R hv=>by
 refine E2 hv fun v w h1 h2=>?_
 refine Ev h1 ?_; refine Ev h2 ?_
 exact wpAny_is_ref_other hab (R.good.X _ _ hK) (R.good.X _ _ hK') hne (ok R ak h)
theorem ml {P:Params} {F:FF}:∀ {ys:List (List Nat)} {vs:List Value},af P F vs (ys.map .str)→StrsAre vs (ys.map fun y=>⟨y.toArray⟩)
 | [],_,h=>by simp only [List.map_nil,af] at h; subst h; exact .nil
 | y :: ys,_,h=>by
  simp only [List.map_cons,af] at h
  obtain ⟨v,r,rfl,h1,h2⟩:=h
  refine Es h1 fun t=>?_
  exact .cons _ t (ml h2)
theorem Dy {x y:List Nat}:((⟨x.toArray⟩:Str) == ⟨y.toArray⟩) = (x == y):=by
 rw [Bool.eq_iff_iff,beq_iff_eq,beq_iff_eq]
 constructor
 ·intro h; injection h with h; simpa using h
 ·rintro rfl; rfl
theorem eB {x:List Nat} {ys:List (List Nat)} (h:Q (.bool (ys.any (· == x))) H):CMP B n .In (.str x) (.tup (ys.map .str)) H Q:=fun A hp F s vs hA R hv=>by
 refine E2 hv fun v w h1 h2=>?_
 refine Es h1 fun t=>?_
 refine h2.etup R.fr fun a items ht hr=>?_
 refine in_tuple_strs (items:=⟨items⟩) ht (ml hr) (ok R ak ?_)
 have:(List.map (fun y:List Nat=>(⟨y.toArray⟩:Str)) ys).any (· == (⟨x.toArray⟩:Str)) = ys.any (· == x):=by
  rw [List.any_map]; congr 1; funext y; exact Dy
 rw [this]; exact h
theorem Hf {x:List Nat} {c:Nat} (h:Q (.bool (decide (c ∈ x))) H):CMP B n .In (.str [c]) (.str x) H Q:=Te (by
 have:=StrLaws.found_one ⟨x.toArray⟩ c
 have hl:Str.length ⟨x.toArray⟩ = x.length:=by show x.toArray.size = _; simp
 rw [hl] at this
 show Q (.bool !(Builtin.Str.occurrences ⟨x.toArray⟩ ⟨#[c]⟩ 0 x.length 1).isEmpty) H
 rw [this]
 simpa using h)
theorem W9 {x:List Nat} {c:Nat} (h:Q (.bool (!decide (c ∈ x))) H):CMP B n .NotIn (.str [c]) (.str x) H Q:=fun A hp F s vs hA R hv=>by
 refine E2 hv fun v w h1 h2=>?_
 refine Es h1 fun t=>?_; refine Es h2 fun u=>?_
 refine PyProof.Rows.notIn_str (ok R ak ?_)
 have:=StrLaws.found_one ⟨x.toArray⟩ c
 have e:(⟨[c].toArray⟩:Str) = ⟨#[c]⟩:=rfl
 rw [e,this]
 simpa using h
theorem gR {x:AV} {xs:List AV} (hx:LS H x xs) (hz:xs.length≤100000) (h:Q (.lst xs) H):ac B n (.type "list") [x] H Q:=fun A hp F s vs hA R hv=>by
 refine E1 hv fun v h1=>?_
 refine hx.at R h1 fun p o m items e1 e2 e3 e4=>?_
 refine call_list_seq (items:=⟨items⟩) p (.inl rfl) e1 e2 e3 (fun h' c' k hget=>?_) (by show items.length≤sizeLine; rw [e4.len]; exact ay hz)
 obtain ⟨f1,f2,f3⟩:=R.fresh
 refine ⟨F.put s.heap.objs.size { cls:=.type "list",dict:=none,data:=.seq ⟨items⟩ c',slots:=#[] },.lst xs,H,⟨FF.put_le f1,fun a o' e=>?_⟩,?_,?_,h⟩
 ·rcases FF.put_of e with ⟨rfl,rfl⟩ | e
  ·exact .inr f3
  ·exact .inl e
 ·have R':=R.ext (tk:=s.toks) k
  refine ⟨fun a o' e=>?_,fun a ha=>?_,fun a o' e=>(FF.put_le f1).1 _ _ (R.fK _ _ e),R'.hl,fun i p c a1 a2=>(R'.hc i p c a1 a2).mono (FF.put_le f1),R'.hn,R'.hk,R'.kp,R'.gd,R'.eg,R'.ed,R'.eo⟩
  ·rcases FF.put_of e with ⟨rfl,rfl⟩ | e
   ·exact hget
   ·exact k _ _ (R.fr _ _ e)
  ·show (F.put s.heap.objs.size _).f a = none
   unfold FF.put
   dsimp only
   by_cases q:a = s.heap.objs.size
   ·exact absurd (q ▸ ha) f2
   ·rw [if_neg q]; exact R.fk a ha
 ·simp only [VR,AVR]
  exact ⟨_,c',items,rfl,FF.put_self,e4.mono (FF.put_le f1)⟩
theorem Oq {xs ys:List AV} (hz:xs.length + ys.length≤100000) (h:Q (.lst (xs++ys)) H):gD B n .Add (.lst xs) (.lst ys) H Q:=fun A hp F s vs hA R hv=>by
 refine E2 hv fun v w h1 h2=>?_
 simp only [AVR] at h1 h2
 obtain ⟨a,m,items,rfl,e1,e2⟩:=h1
 obtain ⟨b,m',items',rfl,e3,e4⟩:=h2
 obtain ⟨g,R2⟩:=R.put (tk:=s.toks) (o:={ cls:=.type "list",data:=.seq (⟨items⟩++⟨items'⟩) }) rfl
 refine P.add_list (items:=⟨items⟩) (items2:=⟨items'⟩) (R.fr _ _ e1) (R.fr _ _ e3) ⟨_,.lst (xs++ys),H,g,R2,?_,h⟩ (by show items.length + items'.length≤sizeLine; rw [e2.len,e4.len]; exact ay hz)
 simp only [VR,AVR]
 refine ⟨_,0,items++items',rfl,?_,(e2.app e4).mono g.1⟩
 have:((⟨items⟩:Array Value)++⟨items'⟩) = ⟨items++items'⟩:=by simp
 rw [← this]
 exact FF.put_self
theorem Cy {k:Nat} {xs ys:List AV} (hk:H[k]? = some (.list xs)) (hz:xs.length + ys.length≤100000) (h:Q .none (H.set k (.list (xs++ys)))):ac B n (.builtin "list.extend") [.cell k,.lst ys] H Q:=fun A hp F s vs hA R hv=>by
 refine E2 hv fun v w h1 h2=>?_
 refine R.cell h1 hk fun p hpi hc=>?_; obtain ⟨hq,o,m,items,e1,e2,e3,e4,e5,e6⟩:=hc
 have hw:=nv e2 e3 e5 e6
 simp only [AVR] at h2
 obtain ⟨b,m',items',rfl,e7,e8⟩:=h2
 have hl:IsL s.heap p.1 ⟨items⟩ m:=by show s.heap.get? p.1 = _; rw [e1,hw]
 have hz2:(⟨items⟩:Array Value).size + (⟨items'⟩:Array Value).size≤100000:=by show items.length + items'.length≤_; rw [e4.len,e8.len]; exact hz
 have hz3:=ay hz2
 refine call_meets PySem.F.slot_list_extend ⟨_,hl,rfl⟩ PySem.F.entry_list_extend (PySem.F.args_list_extend_2 _ _) (PySem.AutoSeq1.list_extend_list_list_0 p.1 ⟨items⟩ m b ⟨items'⟩ m' (by
  have:Builtin.List.listTooLong ((⟨items⟩:Array Value).size + (⟨items'⟩:Array Value).size) = false:=by
   unfold Builtin.List.listTooLong
   rw [decide_eq_false]
   rw [sizeLine_eq] at hz3 ⊢
   lia
  rw [this]; simp) (Nat.le_trans (Nat.le_add_right _ _) hz3) (Nat.le_succ_of_le hz3)) ⟨hl,R.fr _ _ e7,?_⟩
 have hu:=hl.update fun x=>x++(⟨items'⟩:Array Value)
 have he:(⟨items⟩:Array Value)++⟨items'⟩ = ⟨items++items'⟩:=by simp
 rw [he] at hu
 refine ⟨F,.none,_,.refl,R.upd (tk:=s.toks) (b:=p.1) hpi (aN.mpr (.inl rfl)) (fun z hz=>Heap.get?_update_other _ _ (Ne.symm hz)) ?_,mh,h⟩
 exact ⟨hq,_,_,items++items',hu,rfl,rfl,e4.app e8,rfl,rfl⟩
end
end
section
set_option bootstrap.genMatcherCode false
open PySem PySem.W PySem.Calls PyProof.Rows PySem.Builtin PySem.Builtin.Str PySem.SeqAt
section
variable {B:Base} {n:Nat} {H:HS} {Q:AV→HS→Prop}
theorem Qd {x y:AV} {xs ys:List AV} (hx:LS H x xs) (hy:LS H y ys) (hne:xs.length ≠ ys.length) (h:Q (.bool false) H):CMP B n .Eq x y H Q:=fun A hp F s vs hA R hv=>by
 refine E2 hv fun v w h1 h2=>?_
 refine hx.at R h1 fun a o m items e1 e2 e3 e4=>?_
 refine hy.at R h2 fun b o' m' items' f1 f2 f3 f4=>?_
 refine eq_list_lengthsAt (items:=⟨items⟩) (items2:=⟨items'⟩) ⟨o,e1,e2,m,e3⟩ ⟨o',f1,f2,m',f3⟩ ?_ (by have:=hA.2.2; lia) (ok R ak h)
 show (items.length != items'.length) = true
 rw [e4.len,f4.len]; simpa using hne
theorem Mt {x y:AV} {xs ys:List AV} (hx:LS H x xs) (hy:LS H y ys) (hne:xs.length ≠ ys.length) (h:Q (.bool true) H):CMP B n .NotEq x y H Q:=fun A hp F s vs hA R hv=>by
 refine E2 hv fun v w h1 h2=>?_
 refine hx.at R h1 fun a o m items e1 e2 e3 e4=>?_
 refine hy.at R h2 fun b o' m' items' f1 f2 f3 f4=>?_
 refine RcNeAt.lists_lengths (items:=⟨items⟩) (items2:=⟨items'⟩) ⟨o,e1,e2,m,e3⟩ ⟨o',f1,f2,m',f3⟩ ?_ (by have:=hA.2.2; lia) _ _ _ _ (ok R ak h)
 show (items.length != items'.length) = true
 rw [e4.len,f4.len]; simpa using hne
theorem OP {x y:AV} (hx:LS H x []) (hy:LS H y []) (h:Q (.bool true) H):CMP B n .Eq x y H Q:=fun A hp F s vs hA R hv=>by
 refine E2 hv fun v w h1 h2=>?_
 refine hx.at R h1 fun a o m items e1 e2 e3 e4=>?_
 refine hy.at R h2 fun b o' m' items' f1 f2 f3 f4=>?_
 simp only [af] at e4 f4
 subst e4 f4
 exact eq_listAt (e:=fun zz=>true) ⟨o,e1,e2,m,e3⟩ ⟨o',f1,f2,m',f3⟩ rfl (by have:=hA.2.2; lia) (fun j h1 zz=>absurd h1 (Nat.not_lt_zero _)) (ok R ak h)
theorem M9 {x y:AV} (hx:LS H x []) (hy:LS H y []) (h:Q (.bool false) H):CMP B n .NotEq x y H Q:=fun A hp F s vs hA R hv=>by
 refine E2 hv fun v w h1 h2=>?_
 refine hx.at R h1 fun a o m items e1 e2 e3 e4=>?_
 refine hy.at R h2 fun b o' m' items' f1 f2 f3 f4=>?_
 simp only [af] at e4 f4
 subst e4 f4
 exact RcNeAt.lists (e:=fun zz=>true) ⟨o,e1,e2,m,e3⟩ ⟨o',f1,f2,m',f3⟩ rfl (by have:=hA.2.2; lia) (fun j h1 zz=>absurd h1 (Nat.not_lt_zero _)) _ _ _ _ (ok R ak h)
theorem rG {P:Params} {F:FF}:∀ {ks:List Int} {vs:List Value},af P F vs (ks.map .int)→∀ j (h:j < vs.length),∃ k t,ks[j]? = some k∧vs[j] = .int k t
 | [],vs,r,j,h=>by simp only [List.map_nil,af] at r; subst r; exact absurd h (Nat.not_lt_zero _)
 | k :: ks,vs,r,j,h=>by
  simp only [List.map_cons,af] at r
  obtain ⟨v,r',rfl,h1,h2⟩:=r
  refine Ei h1 fun t=>?_
  cases j with
  | zero=>exact ⟨k,t,rfl,rfl⟩
  | succ j =>
   obtain ⟨k',t',e1,e2⟩:=rG h2 j (by simpa using h)
   exact ⟨k',t',by simpa using e1,by simpa using e2⟩
theorem yx {x y:AV} {ks:List Int} (hx:LS H x (ks.map .int)) (hy:LS H y (ks.map .int)) (h:Q (.bool true) H):CMP B n .Eq x y H Q:=fun A hp F s vs hA R hv=>by
 refine E2 hv fun v w h1 h2=>?_
 refine hx.at R h1 fun a o m items e1 e2 e3 e4=>?_
 refine hy.at R h2 fun b o' m' items' f1 f2 f3 f4=>?_
 have hall:(List.range (⟨items⟩:Array Value).size).all (fun zz=>true) = true:=by simp
 refine eq_listAt (items:=⟨items⟩) (items2:=⟨items'⟩) (e:=fun zz=>true) ⟨o,e1,e2,m,e3⟩ ⟨o',f1,f2,m',f3⟩ (by show items.length = items'.length; rw [e4.len,f4.len]) (by have:=hA.2.2; lia) (fun j h1 h2=>?_) (by rw [hall]; exact ok R ak h)
 obtain ⟨k,t,c1,c2⟩:=rG e4 j h1
 obtain ⟨k',t',d1,d2⟩:=rG f4 j h2
 rw [c1] at d1; cases d1
 have c2':(⟨items⟩:Array Value)[j] = .int k t:=c2
 have d2':(⟨items'⟩:Array Value)[j] = .int k t':=d2
 rw [c2',d2']
 have:=EqAt.int_int (A:=A.in1) (s:=s) k t k t'
 rwa [beq_self_eq_true] at this
theorem Bv {a b:Int} (hb:b ≠ 0) (hp':Builtin.divisionGoesByPylong a b = false) (h:Q (.tup [.int (a.fdiv b),.int (a.fmod b)]) H):ac B n (.builtin "divmod") [.int a,.int b] H Q:=fun A hp F s vs hA R hv=>by
 refine E2 hv fun v w h1 h2=>?_
 refine Ei h1 fun t=>?_; refine Ei h2 fun u=>?_
 obtain ⟨g,R2⟩:=R.put (tk:=s.toks + 1 + 1) (o:={ cls:=.type "tuple",data:=.seq #[.int (a.fdiv b) s.toks,.int (a.fmod b) (s.toks + 1)] }) rfl
 refine divmod_int hb ⟨_,_,H,g,R2,?_,h⟩ (.inl hp')
 simp only [VR,AVR]
 exact ⟨_,_,0,[.int (a.fdiv b) s.toks,.int (a.fmod b) (s.toks + 1)],rfl,FF.put_self,rfl,rfl,two ax ax⟩
theorem NK {x y:List Nat} (h:Q (.int (Txt.find ⟨x.toArray⟩ ⟨y.toArray⟩)) H):ac B n (.builtin "str.find") [.str x,.str y] H Q:=fun A hp F s vs hA R hv=>by
 refine E2 hv fun v w h1 h2=>?_
 refine Es h1 fun t=>?_; refine Es h2 fun u=>?_
 exact PySem.SC.find (ok R.toks ax h)
theorem F8 {x y:List Nat} (hy:0≤Txt.find ⟨x.toArray⟩ ⟨y.toArray⟩) (hy2:(occurrences ⟨x.toArray⟩ ⟨y.toArray⟩ 0 (Str.length ⟨x.toArray⟩) 1).isEmpty = false) (h:Q (.int (Txt.find ⟨x.toArray⟩ ⟨y.toArray⟩)) H):ac B n (.builtin "str.index") [.str x,.str y] H Q:=fun A hp F s vs hA R hv=>by
 refine E2 hv fun v w h1 h2=>?_
 refine Es h1 fun t=>?_; refine Es h2 fun u=>?_
 exact index_or hA.1 (fun q=>by lia) fun zz zz=>ok R.toks ax h
theorem Fp {x y:List Nat} (hz:y.length≤100000) (hl:Txt.lower ⟨x.toArray⟩ = ⟨y.toArray⟩) (h:Q (.str y) H):ac B n (.builtin "str.lower") [.str x] H Q:=fun A hp F s vs hA R hv=>by
 refine E1 hv fun v h1=>?_
 refine Es h1 fun t=>?_
 refine PySem.SC.lower ?_ (by rw [hl]; exact ok R.toks cy h)
 rw [hl]
 unfold tooLong
 have:=ay hz
 have e:Str.length ⟨y.toArray⟩ = y.length:=by show y.toArray.size = _; simp
 rw [e,decide_eq_false]; lia
theorem zq {x y z:List Nat} (hz:x.length≤100000) (hl:Txt.rstripChars ⟨x.toArray⟩ ⟨y.toArray⟩ = ⟨z.toArray⟩) (h:Q (.str z) H):ac B n (.builtin "str.rstrip") [.str x,.str y] H Q:=fun A hp F s vs hA R hv=>by
 refine E2 hv fun v w h1 h2=>?_
 refine Es h1 fun t=>?_; refine Es h2 fun u=>?_
 exact PySem.SC.rstripChars (fun t' k=>by rw [hl]; exact ok R.toks cy h) (by show x.toArray.size≤sizeLine; rw [List.size_toArray]; exact ay hz)
noncomputable def dO (sep:List Nat):List (List Nat)→List Nat
 | []=>[]
 | [x]=>x
 | x :: r=>x++sep++dO sep r
theorem yI (sep:List Nat):∀ ys:List (List Nat),Txt.join ⟨sep.toArray⟩ (ys.map fun y=>⟨y.toArray⟩) = ⟨(dO sep ys).toArray⟩
 | []=>rfl
 | x :: r=>by
  unfold Txt.join
  rw [StrLaws.glued_eq_join]
  have key:∀ (x:List Nat) (r:List (List Nat)),Str.join ⟨sep.toArray⟩ ((x :: r).map fun y=>(⟨y.toArray⟩:Str)) = ⟨(dO sep (x :: r)).toArray⟩:=by
   intro x r
   induction r generalizing x with
   | nil=>rfl
   | cons y r ih =>
    have:=ih y
    simp only [List.map_cons] at this ⊢
    show (⟨x.toArray⟩:Str)++⟨sep.toArray⟩++Str.join ⟨sep.toArray⟩ (⟨y.toArray⟩ :: r.map fun y=>⟨y.toArray⟩) = _
    rw [this]
    show (Str.mk _:Str) = _
    simp [dO,Str.cps_append]
  exact key x r
theorem QW {x:AV} {sep:List Nat} {ys:List (List Nat)} (hx:LS H x (ys.map .str)) (hz:(ys.map List.length).sum + ys.length * sep.length≤100000) (h:Q (.str (dO sep ys)) H):ac B n (.builtin "str.join") [.str sep,x] H Q:=fun A hp F s vs hA R hv=>by
 refine E2 hv fun v w h1 h2=>?_
 refine Es h1 fun t=>?_
 refine hx.at R h2 fun a o m items e1 e2 e3 e4=>?_
 refine join_list (items:=⟨items⟩) ⟨o,e1,e2,m,e3⟩ (ml e4) ?_ fun t' k=>?_
 ·have e':Str.length ⟨sep.toArray⟩ = sep.length:=by show sep.toArray.size = _; simp
  have e2:(List.map (fun zz=>zz.length) (ys.map fun y=>(⟨y.toArray⟩:Str))).sum = (ys.map List.length).sum:=by
   rw [List.map_map]; congr 1
  rw [e2,e',List.length_map]; lia
 ·rw [yI]; exact ok R.toks cy h
theorem jE:∀ ys:List (List Nat),dO [] ys = ys.flatten
 | []=>rfl
 | [x]=>by simp [dO]
 | x :: y :: r=>by
  rw [dO,jE (y :: r)]
  ·simp
  ·intro q; cases q
 termination_by ys=>ys.length
theorem oU {prog:Program} {w:World} {A:Around} {s:Shared} {l:Addr} {o:Obj} {items:Array Value} {m:Nat} {k:Int} {t:Tok} {v:Value} {Q:Unit→Shared→Prop} (ho:s.heap.get? l = some o) (hc:o.cls = .type "list") (hd:o.data = .seq items m)
  (h0:0≤k) (hfit:k < 2 ^ 63) (hn:k < items.size) (hQ:Q () { s with heap:=s.heap.update l (Obj.mapSeq (·.setIfInBounds k.toNat v)) }):wpAny (model prog w) A (setItem (.ref l) (.int k t) v) Q NoE s:=by
 have hl:s.heap.IsList l items:=⟨o,ho,hc,m,hd⟩
 unfold setItem
 try with_reducible refine wpAny_holding ?_
 first | refine wpAny_bind (wpAny_pure ?_) | skip
 refine wpAny_bind (wpAny_sequenceKey hl.typeIs (by decide) ?_)
 refine wpAny_bind (wpAny_callSpecial?_slot (name:=Str.ofString "__setitem__") hl.typeIs slot_list_setitem
  (wpAny_call_entry slot_list_setitem hl.typeIs entry_list_setitem ?_ (args_list_setitem _ _ _)))
 show wpAny _ _ (Builtin.List.listSubscript? (.int k t) >>= _) _ _ s
 refine wpAny_bind (wpAny_listSubscript_int (fitsIndex_of h0 hfit) ?_)
 clear hfit
 obtain ⟨j,rfl⟩:=Int.eq_ofNat_of_zero_le h0
 have hj:j < items.size:=by lia
 have hx':items[j]? = some items[j]:=Array.getElem?_eq_getElem hj
 show wpAny _ _ ((seqItemAt l j >>= fun r=>pure (r.map (j,·))) >>= _) _ _ s
 refine wpAny_bind (wpAny_bind (wpAny_seqItemAt ho hd (wpAny_pure ?_)))
 rw [hx']
 show wpAny _ _ (setSeqItemAt l j v >>= _) _ _ s
 refine wpAny_bind (wpAny_setSeqItemAt ho hd ?_)
 first
  | exact wpAny_bind (wpAny_pure (wpAny_pure ⟨.none,rfl,wpAny_pure hQ⟩))
  | exact wpAny_pure ⟨.none,rfl,wpAny_pure hQ⟩
theorem af.set {P:Params} {F:FF}:∀ {vs:List Value} {as:List AV} (i:Nat) {v:Value} {a:AV},af P F vs as→AVR P F v a→af P F (vs.set i v) (as.set i a)
 | _,[],i,_,_,r,_=>by simp only [af] at r; subst r; simp [af]
 | _,a :: as,0,_,_,r,h=>by
  simp only [af] at r
  obtain ⟨v,r',rfl,_,e3⟩:=r
  exact .cons h e3
 | _,a :: as,i + 1,_,_,r,h=>by
  simp only [af] at r
  obtain ⟨v,r',rfl,h1,e3⟩:=r
  exact .cons h1 (af.set i e3 h)
theorem XJ {k:Nat} {xs:List AV} {i:Int} {a:AV} {Q:Unit→HS→Prop} (hk:H[k]? = some (.list xs)) (h0:0≤i) (h1:i < xs.length) (h2:i < 2 ^ 63) (h:Q () (H.set k (.list (xs.set i.toNat a)))):mo B n (.cell k) (.int i) a H Q:=fun A hp F s vs hA R hv=>by
 refine E3 hv fun v w u hv1 hv2 hv3=>?_
 refine Ei hv2 fun t=>?_
 refine R.cell hv1 hk fun p hpi hc=>?_; obtain ⟨hq,o,m,items,e1,e2,e3,e4,e5,e6⟩:=hc
 refine oU (items:=⟨items⟩) e1 e2 e3 h0 h2 (by show i < (items.length:Int); rw [e4.len]; exact h1) ?_
 obtain ⟨m',hd'⟩:=Obj.data_mapSeq e3 (·.setIfInBounds i.toNat u)
 refine ⟨F,(),_,.refl,R.upd (tk:=s.toks) (b:=p.1) hpi (aN.mpr (.inl rfl)) (fun y hy=>Heap.get?_update_other _ _ (Ne.symm hy)) ?_,trivial,h⟩
 refine ⟨hq,o.mapSeq (·.setIfInBounds i.toNat u),m',items.set i.toNat u,Heap.get?_update_self _ e1 (Obj.isFreed_of_seq hd'),(Obj.cls_mapSeq ..).trans e2,?_,e4.set _ hv3,?_,?_⟩
 ·rw [hd']; simp
 ·rw [(cC o _).1]; exact e5
 ·rw [(cC o _).2]; exact e6
theorem AJ {sc:List (Str × NameKind)} {loc:Loc} {pos:Pos} (h:Q (.cell H.length) (H++[.dict []])):EV B n sc loc H (.Dict [] [] pos) Q:=fun A hp F s env hA R=>by
 have R2:=mX (tk:=s.toks) (o:={ cls:=.type "dict",data:=.dict #[] }) (c:=.dict []) R rfl (fun h e=>⟨rfl,_,#[],0,e,⟨rfl,rfl,rfl⟩,rfl,by simp only [aX],by simp⟩)
 refine wpAny_Dict_empty ⟨_,_,_,FF.more_grow,R2,?_,h⟩
 rw [← R.g.hl]
 exact dK
theorem qW {prog:Program} {w:World} {F:FF}:∀ {es:List DictEntry} {kvs:List (Str × AV)},aX w.params F es kvs→(∀ e ∈ es,∃ k,(strKind prog w).is k e.key = true∧e.hash = (strKind prog w).hash k) ∧
  ∃ vs,Pairs (strKind prog w) es ((kvs.map (fun zz=>zz.1)).zip vs)∧af w.params F vs (kvs.map (fun zz=>zz.2))
 | _,[],r=>by simp only [aX] at r; subst r; exact ⟨fun zz h=>(nomatch h),[],.nil,by simp [af]⟩
 | _,(k,a) :: as,r=>by
  simp only [aX] at r
  obtain ⟨e,r',t,rfl,e2,e3,e4,e5⟩:=r
  obtain ⟨h1,vs,h2,h3⟩:=qW (prog:=prog) e5
  have hk:(strKind prog w).is k e.key = true:=by rw [e2]; exact strKind_is prog w k t
  refine ⟨fun x hx=>?_,e.val :: vs,.cons hk rfl h2,.cons e4 h3⟩
  rcases List.mem_cons.mp hx with rfl | hx
  ·exact ⟨k,hk,e3⟩
  ·exact h1 x hx
theorem tR {hp:Heap} {F:FF} {s:Shared} {p:Addr × Addr} {kvs:List (Str × AV)} (hc:bo B.w.params F s.heap p (.dict kvs)):∃ vs,s.heap.DictOf (strKind B.prog B.w) p.1 ((kvs.map (fun zz=>zz.1)).zip vs)∧af B.w.params F vs (kvs.map (fun zz=>zz.2)):=by
 obtain ⟨hq,o,es,m,e1,e2,e3,e4,e5⟩:=hc
 obtain ⟨h1,vs,h2,h3⟩:=qW (prog:=B.prog) e4
 refine ⟨vs,⟨o,es,m,e1,e2,e3,fun e he=>h1 e (by simpa using he),h2,?_⟩,h3⟩
 rw [List.map_fst_zip (by rw [List.length_map,h3.len,List.length_map]; exact Nat.le_refl _)]
 exact e5
theorem P7 (x:Str):∀ {kvs:List (Str × AV)} {vs:List Value} {P:Params} {F:FF},af P F vs (kvs.map (fun zz=>zz.2)) →
  (valueAt ((kvs.map (fun zz=>zz.1)).zip vs) x = none∧kvs.lookup x = none) ∨ ∃ v a,valueAt ((kvs.map (fun zz=>zz.1)).zip vs) x = some v∧kvs.lookup x = some a∧AVR P F v a
 | [],vs,_,_,_=>.inl ⟨rfl,rfl⟩
 | (k,a) :: kvs,vs,_,_,r=>by
  simp only [List.map_cons,af] at r
  obtain ⟨v,r',rfl,h1,h2⟩:=r
  unfold valueAt
  simp only [List.map_cons,List.zip_cons_cons,List.find?_cons,List.lookup_cons]
  by_cases q:k = x
  ·subst q
   right
   exact ⟨v,a,by simp,by simp,h1⟩
  ·have q':(x == k) = false:=by simpa using fun h=>q h.symm
   rw [q']
   simp only [q,decide_false]
   exact P7 x h2
theorem xW {k:Nat} {kvs:List (Str × AV)} {Q:Value × List AV→HS→Prop} (hk:H[k]? = some (.dict kvs)) (h:Q (.builtin "dict.get",[.cell k]) H):ee B n (.cell k) "get" H Q:=fun pl A hp F s vs hA R hv=>by
 refine E1 hv fun v h1=>?_
 refine R.cell h1 hk fun p hpi hc=>?_
 obtain ⟨vs,hd,_⟩:=tR (hp:=hp) hc
 exact getMethod_builtin hd.typeIs PySem.F.plainAttrs_dict PySem.F.slot_dict_get PySem.F.type_dict_get hd.mapOf.noDict ⟨F,(.builtin "dict.get",[.cell k]),H,.refl,R,⟨rfl,one (tZ hpi)⟩,h⟩
theorem Fy {hp:Heap} {F:FF} {s:Shared} {i:Nat} {p:Addr × Addr} (R:RelG B hp F H s) (hi:F.io[i]? = some p) (hb:2≤B.nb):(p.1 == sysModules) = false:=by
 have h1:=(R.hk p.1 (fg (List.mem_of_getElem? hi) (.inl rfl))).2
 rw [beq_eq_false_iff_ne]
 intro e
 have h2:@LE.le Nat _ B.nb p.1:=h1
 rw [e] at h2
 have h3:@LE.le Nat _ B.nb 1:=h2
 lia
theorem MA {k:Nat} {kvs:List (Str × AV)} {x:List Nat} (hb:2≤B.nb) (hk:H[k]? = some (.dict kvs)) (h:Q ((kvs.lookup ⟨x.toArray⟩).getD .none) H):ac B n (.builtin "dict.get") [.cell k,.str x,.none] H Q:=fun A hp F s vs hA R hv=>by
 refine E3 hv fun v w u hv1 hv2 hv3=>?_
 refine Es hv2 fun t=>?_
 refine En hv3 ?_
 refine R.cell hv1 hk fun p hpi hc=>?_
 obtain ⟨vs,hd,hr⟩:=tR (hp:=hp) hc
 refine call_meetsIn PySem.F.slot_dict_get hd.typeIs PySem.F.entry_dict_get (PySem.F.args_dict_get_3 _ _ _) (meets_dict_get_default (strKind B.prog B.w) p.1 (strKind_is B.prog B.w _ t) (Fy R hpi hb) .none) ⟨_,hd.mapOf,?_⟩
 rcases P7 ⟨x.toArray⟩ hr with ⟨h1,h2⟩ | ⟨v,a,h1,h2,h3⟩
 ·rw [h1]; rw [h2] at h
  exact ok (R.toks (tk:=s.toks + 1)) mh h
 ·rw [h1]; rw [h2] at h
  exact ok (R.toks (tk:=s.toks + 1)) h3 h
set_option tactic.hygienic true in
theorem nP {prog:Program} {w:World} {F:FF}:∀ {es:List DictEntry} {ks:List Str} {vs:List Value} {as:List AV},(∀ e ∈ es,∃ k,(strKind prog w).is k e.key = true∧e.hash = (strKind prog w).hash k)→Pairs (strKind prog w) es (ks.zip vs)→ks.length = as.length→af w.params F vs as→aX w.params F es (ks.zip as)
 | _,[],_,[],_,hp,_,r=>by cases hp; simp [aX]
 | _,k :: ks,vs,a :: as,hk,hp,hl,r=>by
  simp only [af] at r
  obtain ⟨v,r',rfl,h1,h2⟩:=r
  simp only [List.zip_cons_cons] at hp ⊢
  cases hp with
  | cons c1 c2 c3 =>
   rename_i e es
   simp only [aX]
   obtain ⟨t,ht⟩:=Value.isStrOf_shape c1
   refine ⟨e,es,t,rfl,ht,?_,by rw [c2]; exact h1,nP (fun x hx=>hk x (.tail _ hx)) c3 (by simpa using hl) h2⟩
   obtain ⟨k',hk1,hk2⟩:=hk e (.head _)
   have:k' = k:=(strKind prog w).inj _ _ _ hk1 c1
   subst this
   exact hk2
 | _,[],_,_ :: _,_,_,hl,_=>by simp at hl
 | _,_ :: _,_,[],_,_,hl,_=>by simp at hl
theorem Gk {k:Nat} {kvs:List (Str × AV)} {x:List Nat} {a:AV} {Q:Unit→HS→Prop} (hk:H[k]? = some (.dict kvs)) (hz:kvs.length≤100000) (hno:kvs.lookup ⟨x.toArray⟩ = none) (h:Q () (H.set k (.dict (kvs++[(⟨x.toArray⟩,a)])))):mo B n (.cell k) (.str x) a H Q:=fun A hp F s vs hA R hv=>by
 refine E3 hv fun v w u hv1 hv2 hv3=>?_
 refine Es hv2 fun t=>?_
 refine R.cell hv1 hk fun p hpi hc=>?_
 obtain ⟨vs,hd,hr⟩:=tR (hp:=hp) hc
 have hlen:(kvs.map (fun zz=>zz.1)).length = vs.length:=by rw [List.length_map,hr.len,List.length_map]
 refine wpAny_setItem_pairs (strKind_is B.prog B.w _ t) hd (fun h' hm' hs'=>?_) (by rw [List.length_zip,← hlen,Nat.min_self,List.length_map]; exact ay hz)
 have hno':valueAt ((kvs.map (fun zz=>zz.1)).zip vs) ⟨x.toArray⟩ = none:=by
  rcases P7 ⟨x.toArray⟩ hr with ⟨h1,h2⟩ | ⟨v,a,h1,h2,h3⟩
  ·exact h1
  ·rw [hno] at h2; cases h2
 have hany:((kvs.map (fun zz=>zz.1)).zip vs).any (fun kv=>kv.1 = ⟨x.toArray⟩) = false:=by
  unfold valueAt at hno'
  rw [Option.map_eq_none_iff,List.find?_eq_none] at hno'
  rw [List.any_eq_false]
  intro kv hkv
  exact hno' kv hkv
 have hst:stored ((kvs.map (fun zz=>zz.1)).zip vs) ⟨x.toArray⟩ u = ((kvs++[((⟨x.toArray⟩:Str),a)]).map (fun q:Str × AV=>q.1)).zip (vs++[u]):=by
  unfold stored
  rw [if_neg (by rw [hany]; decide),List.map_append,List.zip_append hlen]
  rfl
 have hm':Heap.DictOf (PySem.strKind B.prog B.w) h' p.1 (stored ((kvs.map (fun zz=>zz.1)).zip vs) ⟨x.toArray⟩ u):=hm'
 rw [hst] at hm'
 obtain ⟨o',es',ep',g1,g2,g3,g4,g5,g6⟩:=hm'
 refine ⟨F,(),_,.refl,R.upd (tk:=s.toks + 1) (b:=p.1) hpi (aN.mpr (.inl rfl)) (fun y hy=>(hs'.2 y hy)) ?_,trivial,h⟩
 have hr2:af B.w.params F (vs++[u]) ((kvs++[((⟨x.toArray⟩:Str),a)]).map (fun q:Str × AV=>q.2)):=by rw [List.map_append]; exact hr.app (one hv3)
 have hback:=nP (F:=F) (fun e he=>g4 e (by simpa using he)) g5 (by simp) hr2
 have hz2:∀ l:List (Str × AV),(l.map (fun zz=>zz.1)).zip (l.map (fun zz=>zz.2)) = l:=fun l=>by
  induction l with
  | nil=>rfl
  | cons y r ih=>simp [ih]
 rw [hz2] at hback
 refine ⟨hc.1,o',es',ep',g1,g2,g3,hback,?_⟩
 rw [List.map_fst_zip (by rw [List.length_map,List.length_append,List.length_append,← hlen,List.length_map]; exact Nat.le_refl _)] at g6
 exact g6
end
end
section
set_option bootstrap.genMatcherCode false
open PySem PySem.W PySem.Calls PyProof.Rows PySem.Builtin PySem.Builtin.Str PySem.SeqAt
theorem RelG.putAt {B:Base} {hp:Heap} {F:FF} {H:HS} {s:Shared} {a:Addr} {o:Obj} (R:RelG B hp F H s) (ho:s.heap.get? a = some o) (f1:F.f a = none) (f2:a ∉ au F.io) (f3:hp.get? a = none) :
  bk hp F (F.put a o)∧RelG B hp (F.put a o) H s:=by
 refine ⟨⟨FF.put_le f1,fun b o' e=>?_⟩,⟨fun b o' e=>?_,fun b hb=>?_,fun b o' e=>(FF.put_le f1).1 _ _ (R.fK _ _ e),R.hl,fun i p c a1 a2=>(R.hc i p c a1 a2).mono (FF.put_le f1),R.hn,R.hk,R.kp,R.gd,R.eg,R.ed,R.eo⟩⟩
 ·rcases FF.put_of e with ⟨rfl,rfl⟩ | e
  ·exact .inr f3
  ·exact .inl e
 ·rcases FF.put_of e with ⟨rfl,rfl⟩ | e
  ·exact ho
  ·exact R.fr _ _ e
 ·show (F.put a o).f b = none
  unfold FF.put
  dsimp only
  by_cases q:b = a
  ·exact absurd (q ▸ hb) f2
  ·rw [if_neg q]; exact R.fk b hb
section
variable {B:Base} {n:Nat} {H:HS} {sc:List (Str × NameKind)} {loc:Loc} {Q:AV→HS→Prop}
noncomputable def ru (H:HS):AV→Option (List AV)
 | .lst xs=>some xs
 | .arg xs=>some xs
 | .cell j=>match H[j]? with
  | some (.list xs)=>some xs
  | _=>none
 | _=>none
set_option tactic.hygienic true in
theorem fJ {H:HS} {xs:List AV}:∀ {x:AV},ru H x = some xs→LS H x xs
 | .lst ys,h=>by cases h; exact .lst
 | .arg ys,h=>by cases h; exact .arg
 | .cell j,h=>by
  simp only [ru] at h
  split at h
  ·rename_i ys e; cases h; exact .cell e
  ·cases h
 | .none,h=>nomatch h
 | .bool _,h=>nomatch h
 | .int _,h=>nomatch h
 | .str _,h=>nomatch h
 | .val _,h=>nomatch h
 | .tup _,h=>nomatch h
 | .rng _ _ _,h=>nomatch h
 | .obj _ _ _,h=>nomatch h
theorem LS.of {H:HS} {x:AV} {xs:List AV} (h:LS H x xs):ru H x = some xs:=by
 rcases h with rfl | rfl | ⟨k,rfl,hk⟩
 ·rfl
 ·rfl
 ·simp only [ru,hk]
noncomputable def y9 (x:AV) (i:Nat) (H:HS):Option (Option AV):=(ru H x).map (·[i]?)
theorem Rh {tg:Expr} {it:Addr} {x:AV}:Src B tg (.ref it) [it] (fun i F h=>∃ l,AVR B.w.params F (.ref l) x∧l ≠ it∧h.IsListIter it l i) (fun i F h zz=>∃ l,AVR B.w.params F (.ref l) x∧l ≠ it∧h.IsListIter it l (i + 1)) (y9 x) where
 keep:=fun i F F' h h' ⟨l,e,ne,o,ho,r⟩ g k=>⟨l,e.mono g,ne,o,k it (.head _) _ ho,r⟩
 live:=fun i F h ⟨l,e,ne,o,ho,r⟩ b hb=>by rw [List.mem_singleton] at hb; subst hb; exact ⟨o,ho⟩
 self_:=fun A i F s Q ⟨l,e,ne,hit⟩ hq=>wpAny_pyIter_listiter hit hq
 go:=fun A hp F H s i v R P ⟨l,e,ne,o,ho,hc,hd⟩=>jk rfl ho hc hd (by decide) ⟨R,⟨l,e,ne,o,ho,hc,hd⟩,fun zz zz zz e=>e⟩
 item:=fun A hp F H s i a hh R P ⟨l,e,ne,hit⟩ hn=>by
  unfold y9 at hn
  obtain ⟨xs,hx,hn⟩:=Option.map_eq_some_iff.mp hn
  obtain ⟨o,m,items,e1,e2,e3,e4⟩:=(fJ hx).atR R e
  obtain ⟨v,hv,hr⟩:=e4.at i hn
  refine wpAny_pyNext_list_item (items:=⟨items⟩) (x:=v) hit ⟨o,e1,e2,m,e3⟩ (by simpa using hv) fun h' hit' hs=>?_
  have k:∀ b o,b ∉ [it]→s.heap.get? b = some o→h'.get? b = some o:=fun b o hb e=>(hs.2 b (by simpa using hb)).trans e
  exact ⟨v,F,rfl,.refl,rfl,R.priv P k,P,⟨l,e,ne,hit'⟩,hr,k⟩
 done:=fun A hp F H s i hh R P ⟨l,e,ne,hit⟩ hn=>by
  unfold y9 at hn
  obtain ⟨xs,hx,hn⟩:=Option.map_eq_some_iff.mp hn
  obtain ⟨o,m,items,e1,e2,e3,e4⟩:=(fJ hx).atR R e
  refine wpAny_pyNext_list_end (items:=⟨items⟩) hh hit ⟨o,e1,e2,m,e3⟩ (by
   have:=e4.len
   rw [List.getElem?_eq_none_iff] at hn
   simp; omega) fun h' hs=>?_
  have k:∀ b o,b ∉ [it]→s.heap.get? b = some o→h'.get? b = some o:=fun b o hb e=>hs b o (by simpa using hb) e
  exact ⟨R.priv P k,rfl,k⟩
theorem gJ {tg iter:Expr} {Q:(Nat→HS→Option (Option AV))→HS→Prop} (h:EV B n sc loc H iter fun a H1=>∃ xs,LS H1 a xs∧Q (y9 a) H1):ITV B n sc loc H tg iter Q:=fun A hp F s env hA R =>
 FV.then hA R h fun F1 v a H1 s1 g1 R1 ha q1=>by
  obtain ⟨xs,hx,q⟩:=q1
  obtain ⟨l,rfl,o,m,items,e1,e2,e3,e4⟩:=hx.at' R1.g ha
  refine wpAny_pyIter_list (items:=⟨items⟩) ⟨o,e1,e2,m,e3⟩ ?_
  obtain ⟨P,R2⟩:=R1.fresh_priv (o:={ cls:=.type "list_iterator",data:=.fields #[.ref l,.int 0 0] }) (tk:=s1.toks)
  exact ⟨F1,H1,_,_,_,_,g1,R2,P,Rh (x:=a),⟨l,ha,Nat.ne_of_lt (Heap.lt_size e1),_,Heap.get?_push_size _ rfl,rfl,rfl⟩,q⟩
noncomputable def mz (x y:AV) (i:Nat) (H:HS):Option (Option AV):=match ru H x,ru H y with
 | some xs,some ys=>some (match xs[i]?,ys[i]? with
  | some a,some b=>some (.tup [a,b])
  | _,_=>none)
 | _,_=>none
set_option tactic.hygienic true in
theorem nt {x y:AV} {i:Nat} {H:HS} {r:Option AV} (h:mz x y i H = some r):∃ xs ys,ru H x = some xs∧ru H y = some ys∧((∃ a b,xs[i]? = some a∧ys[i]? = some b∧r = some (.tup [a,b])) ∨ ((xs[i]? = none ∨ ys[i]? = none)∧r = none)):=by
 unfold mz at h
 split at h
 ·rename_i xs ys e1 e2
  refine ⟨xs,ys,e1,e2,?_⟩
  cases h
  split
  ·rename_i a b e3 e4; exact .inl ⟨a,b,e3,e4,rfl⟩
  ·rename_i hno
   right
   refine ⟨?_,rfl⟩
   cases q1:xs[i]? with
   | none=>exact .inl rfl
   | some a=>cases q2:ys[i]? with
    | none=>exact .inr rfl
    | some b=>exact (hno a b q1 q2).elim
 ·cases h
noncomputable def zps (b:Nat):List Addr:=[b + 4,b + 2,b + 3,b,b + 1]
section
variable {b:Nat}
theorem zm4:(b + 4:Nat) ∈ zps b:=.head _
theorem zm2:(b + 2:Nat) ∈ zps b:=.tail _ (.head _)
theorem zm3:(b + 3:Nat) ∈ zps b:=.tail _ (.tail _ (.head _))
theorem zm0:b ∈ zps b:=.tail _ (.tail _ (.tail _ (.head _)))
theorem zm1:(b + 1:Nat) ∈ zps b:=.tail _ (.tail _ (.tail _ (.tail _ (.head _))))
theorem ane (b i j:Nat) (h:Nat.beq i j = false):(b + i:Nat) ≠ b + j:=fun e=>Nat.ne_of_beq_eq_false h (Nat.add_left_cancel e)
end
theorem Dt {z b:Nat} {l:List Nat} (h:b ∈ l.map (z + ·)):z≤b:=by
 obtain ⟨i,_,rfl⟩:=List.mem_map.mp h
 exact Nat.le_add_right _ _
theorem bN {l:List Addr} {a b:Addr} (h:b ∉ l) (m:a ∈ l):b ≠ a:=fun e=>h (e ▸ m)
theorem qz {z:Nat} {l1 l2:Addr} (m:∀ b ∈ zps z,l1 ≠ b∧l2 ≠ b):ZipApart (z + 4:Nat) (z + 2:Nat) (z + 3:Nat) z (z + 1:Nat) l1 l2 :=
 ⟨ane z 2 4 rfl,ane z 3 4 rfl,ane z 0 4 rfl,ane z 1 4 rfl,ane z 2 3 rfl,ane z 2 0 rfl,ane z 2 1 rfl,ane z 3 0 rfl,ane z 3 1 rfl,ane z 0 1 rfl,
  (m _ zm4).1,(m _ zm3).1,(m _ zm0).1,(m _ zm1).1,(m _ zm4).2,(m _ zm3).2,(m _ zm0).2,(m _ zm1).2⟩
structure ZI (B:Base) (x y:AV) (z:Nat) (i:Nat) (F:FF) (h:Heap) (f0:Value) (l1 l2:Addr):Prop where
 zip:IsZip h (z + 4:Nat) (z + 2:Nat) (z + 3:Nat) f0
 ti:IsPair h (z + 2:Nat) (.ref z) (.ref (z + 1:Nat))
 to:∃ a b,IsPair h (z + 3:Nat) a b
 h1:h.IsListIter z l1 i
 h2:h.IsListIter (z + 1:Nat) l2 i
 r1:AVR B.w.params F (.ref l1) x
 r2:AVR B.w.params F (.ref l2) y
 ne:∀ b ∈ zps z,l1 ≠ b∧l2 ≠ b
theorem ZI.at {x y:AV} {z i:Nat} {F F':FF} {h h':Heap} {f0:Value} {l1 l2:Addr} (Z:ZI B x y z i F h f0 l1 l2) (g:FLe F F') (k:∀ b ∈ zps z,∀ o,h.get? b = some o→h'.get? b = some o):ZI B x y z i F' h' f0 l1 l2 :=
 ⟨k _ zm4 _ Z.zip,k _ zm2 _ Z.ti,let ⟨a,b,e⟩:=Z.to; ⟨a,b,k _ zm3 _ e⟩,let ⟨o,ho,r⟩:=Z.h1; ⟨o,k _ zm0 _ ho,r⟩,let ⟨o,ho,r⟩:=Z.h2; ⟨o,k _ zm1 _ ho,r⟩,Z.r1.mono g,Z.r2.mono g,Z.ne⟩
theorem ZI.live {x y:AV} {z i:Nat} {F:FF} {h:Heap} {f0:Value} {l1 l2:Addr} (Z:ZI B x y z i F h f0 l1 l2):∀ b ∈ zps z,∃ o,h.get? b = some o:=by
 intro b hb
 simp only [zps,List.mem_cons,List.not_mem_nil,or_false] at hb
 rcases hb with rfl | rfl | rfl | rfl | rfl
 ·exact ⟨_,Z.zip⟩
 ·exact ⟨_,Z.ti⟩
 ·obtain ⟨a,b,e⟩:=Z.to; exact ⟨_,e⟩
 ·obtain ⟨o,ho,r⟩:=Z.h1; exact ⟨o,ho⟩
 ·obtain ⟨o,ho,r⟩:=Z.h2; exact ⟨o,ho⟩
theorem EW {elts:List Expr} {k:Nat} {tp:Pos} {z:Nat} {x y:AV}:Src B (.Tuple elts k tp) (.ref (z + 4:Nat)) (zps z) (fun i F h=>∃ l1 l2,ZI B x y z i F h .none l1 l2)
  (fun i F h v=>∃ l1 l2 T,v = .ref T∧T ∉ zps z∧ZI B x y z (i + 1) F h (rawInt T) l1 l2) (mz x y) where
 keep:=fun i F F' h h' ⟨l1,l2,Z⟩ g k=>⟨l1,l2,Z.at g k⟩
 live:=fun i F h ⟨l1,l2,Z⟩=>Z.live
 self_:=fun A i F s Q ⟨l1,l2,Z⟩ hq=>wpAny_pyIter_zip Z.zip hq
 go:=fun A hp F H s i v R P ⟨l1,l2,T,hv,hT,Z⟩=>by
  subst hv
  refine wpAny_letOwnedTupleGo_zip Z.zip fun h' hz' hs'=>?_
  have kk:∀ b o,b ∉ zps z→s.heap.get? b = some o→h'.get? b = some o:=fun b o hb e=>(hs'.2 b (bN hb zm4)).trans e
  refine ⟨R.priv P kk,⟨l1,l2,?_⟩,kk⟩
  have ne:∀ i,Nat.beq i 4 = false→∀ o,s.heap.get? (z + i:Nat) = some o→h'.get? (z + i:Nat) = some o:=fun i hb o e=>(hs'.2 _ (ane z i 4 hb)).trans e
  exact ⟨hz',ne 2 rfl _ Z.ti,let ⟨a,b,e⟩:=Z.to; ⟨a,b,ne 3 rfl _ e⟩,let ⟨o,ho,r⟩:=Z.h1; ⟨o,ne 0 rfl _ ho,r⟩,let ⟨o,ho,r⟩:=Z.h2; ⟨o,ne 1 rfl _ ho,r⟩,Z.r1,Z.r2,Z.ne⟩
 item:=fun A hp F H s i a hh R P ⟨l1,l2,Z⟩ hn=>by
  obtain ⟨xs,ys,hx,hy,⟨a1,b1,ha,hb,e⟩ | ⟨_,e⟩⟩:=nt hn
  ·cases e
   obtain ⟨o1,m1,it1,c1,c2,c3,c4⟩:=(fJ hx).atR R Z.r1
   obtain ⟨o2,m2,it2,d1,d2,d3,d4⟩:=(fJ hy).atR R Z.r2
   obtain ⟨v1,hv1,hr1⟩:=c4.at i ha
   obtain ⟨v2,hv2,hr2⟩:=d4.at i hb
   obtain ⟨ta,tb,hto⟩:=Z.to
   have D:=qz Z.ne
   refine wpAny_pyNext_zip_item (xs:=⟨it1⟩) (ys:=⟨it2⟩) (x:=v1) (y:=v2) D Z.zip Z.ti hto Z.h1 Z.h2 ⟨o1,c1,c2,m1,c3⟩ ⟨o2,d1,d2,m2,d3⟩ (by simpa using hv1) (by simpa using hv2) fun h' g1 g2 g3 g4 g5 g6 g7=>?_
   have kk:∀ b o,b ∉ zps z→s.heap.get? b = some o→h'.get? b = some o:=fun b o hb e=>g7 b o (bN hb zm4) (bN hb zm3) (bN hb zm0) (bN hb zm1) e
   have R':=R.priv (tk:=s.toks) P kk
   obtain ⟨f1,f2,f3⟩:=R.fresh
   obtain ⟨gr,R2⟩:=R'.putAt g5 f1 f2 f3
   have hTz:s.heap.objs.size ∉ zps z:=fun hm=>by
    obtain ⟨o,ho⟩:=Z.live _ hm
    exact absurd (Heap.lt_size ho) (Nat.lt_irrefl _)
   refine ⟨.ref s.heap.objs.size,_,rfl,gr,rfl,R2,fun b hb=>⟨(P b hb).1,?_,(P b hb).2.2⟩,⟨l1,l2,_,rfl,hTz,g1,?_,⟨_,_,g2⟩,g3,g4,Z.r1.mono gr.1,Z.r2.mono gr.1,Z.ne⟩,?_,kk⟩
   ·show (F.put _ _).f b = none
    unfold FF.put
    dsimp only
    rw [if_neg (fun q:b = s.heap.objs.size=>hTz (by rw [← q]; exact hb))]
    exact (P b hb).2.1
   ·exact g7 _ _ D.TIz D.TITO D.TIi1 D.TIi2 Z.ti
   ·simp only [AVR]
    exact ⟨_,_,0,[v1,v2],rfl,FF.put_self,rfl,rfl,two (hr1.mono gr.1) (hr2.mono gr.1)⟩
  ·cases e
 done:=fun A hp F H s i hh R P ⟨l1,l2,Z⟩ hn=>by
  obtain ⟨xs,ys,hx,hy,⟨a1,b1,ha,hb,e⟩ | ⟨hend,e⟩⟩:=nt hn
  ·cases e
  ·obtain ⟨o1,m1,it1,c1,c2,c3,c4⟩:=(fJ hx).atR R Z.r1
   obtain ⟨o2,m2,it2,d1,d2,d3,d4⟩:=(fJ hy).atR R Z.r2
   obtain ⟨ta,tb,hto⟩:=Z.to
   have D:=qz Z.ne
   refine wpAny_pyNext_zip_end (xs:=⟨it1⟩) (ys:=⟨it2⟩) hh D Z.zip Z.ti hto Z.h1 Z.h2 ⟨o1,c1,c2,m1,c3⟩ ⟨o2,d1,d2,m2,d3⟩ ?_ fun h' g7=>?_
   ·have q1:=c4.len; have q2:=d4.len
    simp only [List.getElem?_eq_none_iff,List.getElem?_toArray] at hend ⊢
    omega
   have kk:∀ b o,b ∉ zps z→s.heap.get? b = some o→h'.get? b = some o:=fun b o hb e=>g7 b o (bN hb zm4) (bN hb zm3) (bN hb zm0) (bN hb zm1) e
   exact ⟨R.priv P kk,rfl,kk⟩
end
end
section
set_option bootstrap.genMatcherCode false
open PySem PySem.W PySem.Calls PyProof.Rows PySem.Builtin PySem.Builtin.Str PySem.SeqAt
section
variable {B:Base} {n:Nat} {H:HS} {sc:List (Str × NameKind)} {loc:Loc} {Q:AV→HS→Prop}
theorem jD {func e:Expr} {args:List Expr} {pos:Pos} {g:Value} {Q2:List AV→HS→Prop} {A:Around} {hp:Heap} {F:FF} {s:Shared} {env:Env} {P:Value→Shared→Prop} (hA:dQ n A) (R:RelF B hp F sc env loc H s)
  (h:EV B n sc loc H func fun f H1=>f = .val g∧bK B g∧EVs B n sc loc H1 pos (e :: args) Q2)
  (k:∀ F2 vs as H2 s2,bk hp F F2→RelF B hp F2 sc env loc H2 s2→af B.w.params F2 vs as→Q2 as H2→wpAny (model B.prog B.w) A (call g vs) P NoE s2)
  (he:autoParam (∀ env,eval (.Call func (e :: args) [] pos) env = (do callWith pos (← eval func env) [] (backTo pos (starEach (e :: args) env)) (backToKw pos (keywordEach [] env)))) aW)
  (hs:autoParam (∀ env,starEach (e :: args) env = (e :: args).map fun e=>(false,eval e env)) aW):wpAny (model B.prog B.w) A (eval (.Call func (e :: args) [] pos) env) P NoE s :=
 Call_ (FV.then hA R h fun F1 vf f H1 s1 g1 R1 hf q1=>by
  obtain ⟨rfl,hk,q⟩:=q1
  have hf':vf = g:=by simpa only [VR,AVR] using hf
  subst hf'
  exact bW hk (hs env) (FV.then hA R1 q fun F2 vs as H2 s2 g2 R2 has q2=>⟨R2.g.good.X,by
   rw [List.nil_append]; exact k F2 vs as H2 s2 (g1.trans g2) R2 has q2⟩)) (he env)
theorem MF {elts:List Expr} {k:Nat} {tp:Pos} {func e:Expr} {args:List Expr} {pos:Pos} {Q:(Nat→HS→Option (Option AV))→HS→Prop}
  (h:EV B n sc loc H func fun f H1=>f = .val (.type "zip")∧bK B (.type "zip")∧EVs B n sc loc H1 pos (e :: args) fun as H2=>∃ x y xs ys,as = [x,y]∧LS H2 x xs∧LS H2 y ys∧Q (mz x y) H2)
  (he:autoParam (∀ env,eval (.Call func (e :: args) [] pos) env = (do callWith pos (← eval func env) [] (backTo pos (starEach (e :: args) env)) (backToKw pos (keywordEach [] env)))) aW)
  (hs:autoParam (∀ env,starEach (e :: args) env = (e :: args).map fun e=>(false,eval e env)) aW):ITV B n sc loc H (.Tuple elts k tp) (.Call func (e :: args) [] pos) Q:=fun A hp F s env hA R=>by
 refine jD hA R h (fun F2 vs as H2 s2 g2 R2 has q2=>?_) he hs
 obtain ⟨x,y,xs,ys,rfl,hx,hy,q⟩:=q2
 refine E2 has fun v w h1 h2=>?_
 obtain ⟨l1,rfl,o1,m1,it1,c1,c2,c3,c4⟩:=hx.at' R2.g h1
 obtain ⟨l2,rfl,o2,m2,it2,d1,d2,d3,d4⟩:=hy.at' R2.g h2
 refine call_zip_2 (xs:=⟨it1⟩) (ys:=⟨it2⟩) ⟨o1,c1,c2,m1,c3⟩ ⟨o2,d1,d2,m2,d3⟩ fun h' g1 g3 g4 g5 g6 g7 g8=>?_
 refine wpAny_pyIter_zip g1 ?_
 have hps:∀ b ∈ zps s2.heap.objs.size,@LE.le Nat _ s2.heap.objs.size b:=fun b hb=>Dt (l:=[4,2,3,0,1]) hb
 have lt:∀ {l:Addr} {o:Obj},s2.heap.get? l = some o→∀ b ∈ zps s2.heap.objs.size,l ≠ b:=fun e b hb=>Nat.ne_of_lt (Nat.lt_of_lt_of_le (Heap.lt_size e) (hps b hb))
 exact ⟨F2,H2,zps s2.heap.objs.size,_,_,mz x y,g2,R2.ext g8,R2.above hps,EW,⟨l1,l2,g1,g3,⟨_,_,g4⟩,g5,g6,h1,h2,fun b hb=>⟨lt c1 b hb,lt d1 b hb⟩⟩,q⟩
noncomputable def jC (xs:List Nat) (i:Nat) (_:HS):Option (Option AV):=some (xs[i]?.map fun c=>.tup [.int i,.str [c]])
noncomputable def eps (e:Nat):List Addr:=[e + 1,e]
theorem em1 {e:Nat}:(e + 1:Nat) ∈ eps e:=.head _
theorem em0 {e:Nat}:e ∈ eps e:=.tail _ (.head _)
structure EI (x:Str) (t:Tok) (e:Nat) (i:Nat) (h:Heap) (out:Option Addr):Prop where
 bd:i≤x.cps.size
 en:match out with
  | none=>∃ old,IsEnum h (e + 1:Nat) e i old
  | some T=>∃ item,IsEnumOut h (e + 1:Nat) e i item T
 it:∃ T,(T = "str_ascii_iterator" ∨ T = "str_iterator")∧h.IsStrIter e T x t i
theorem EI.live {x:Str} {t:Tok} {e i:Nat} {h:Heap} {out:Option Addr} (Z:EI x t e i h out):∀ b ∈ eps e,∃ o,h.get? b = some o:=by
 intro b hb
 simp only [eps,List.mem_cons,List.not_mem_nil,or_false] at hb
 rcases hb with rfl | rfl
 ·have:=Z.en
  cases out with
  | none=>obtain ⟨old,q⟩:=this; exact ⟨_,q⟩
  | some T=>obtain ⟨old,q⟩:=this; exact ⟨_,q⟩
 ·obtain ⟨T,_,o,ho,_⟩:=Z.it; exact ⟨o,ho⟩
theorem EI.at {x:Str} {t:Tok} {e i:Nat} {h h':Heap} {out:Option Addr} (Z:EI x t e i h out) (k:∀ b ∈ eps e,∀ o,h.get? b = some o→h'.get? b = some o):EI x t e i h' out:=by
 refine ⟨Z.bd,?_,let ⟨T,hT,o,ho,r⟩:=Z.it; ⟨T,hT,o,k _ em0 _ ho,r⟩⟩
 have:=Z.en
 cases out with
 | none=>obtain ⟨old,q⟩:=this; exact ⟨old,k _ em1 _ q⟩
 | some T=>obtain ⟨old,q⟩:=this; exact ⟨old,k _ em1 _ q⟩
theorem AC {elts:List Expr} {k:Nat} {tp:Pos} {e:Nat} {xs:List Nat}:Src B (.Tuple elts k tp) (.ref (e + 1:Nat)) (eps e) (fun i F h=>∃ t,EI ⟨xs.toArray⟩ t e i h none)
  (fun i F h v=>∃ t T,v = .ref T∧T ∉ eps e∧EI ⟨xs.toArray⟩ t e (i + 1) h (some T)) (jC xs) where
 keep:=fun i F F' h h' ⟨t,Z⟩ g k=>⟨t,Z.at k⟩
 live:=fun i F h ⟨t,Z⟩=>Z.live
 self_:=fun A i F s Q ⟨t,Z⟩ hq=>by obtain ⟨old,he⟩:=Z.en; exact wpAny_pyIter_enum he hq
 go:=fun A hp F H s i v R P ⟨t,T,hv,hT,Z⟩=>by
  subst hv
  obtain ⟨item,he⟩:=Z.en
  refine wpAny_letOwnedTupleGo_enum he fun h' he' hs'=>?_
  have kk:∀ b o,b ∉ eps e→s.heap.get? b = some o→h'.get? b = some o:=fun b o hb e'=>(hs'.2 b (bN hb em1)).trans e'
  refine ⟨R.priv P kk,⟨t,Z.bd,⟨_,he'⟩,?_⟩,kk⟩
  obtain ⟨T',hT',o,ho,r⟩:=Z.it
  exact ⟨T',hT',o,(hs'.2 _ (ane e 0 1 rfl)).trans ho,r⟩
 item:=fun A hp F H s i a hh R P ⟨t,Z⟩ hn=>by
  unfold jC at hn
  obtain ⟨c,hc,rfl⟩:=Option.map_eq_some_iff.mp (Option.some.inj hn)
  have hlt:i < xs.length:=(List.getElem?_eq_some_iff.mp hc).1
  obtain ⟨old,he⟩:=Z.en
  obtain ⟨T,hT,hit⟩:=Z.it
  have hne:(e + 1:Nat) ≠ e:=ane e 1 0 rfl
  have fin:∀ x h' tk,(∃ u,x = Value.str ⟨#[c]⟩ u)→IsEnumOut h' (e + 1:Nat) e ((i:Int) + 1) x s.heap.objs.size→h'.IsStrIter e T ⟨xs.toArray⟩ t (i + 1) →
    h'.get? s.heap.objs.size = some { cls:=.type "tuple",data:=.seq #[.int i tk,x] }→(∀ b o,b ≠ (e + 1:Nat)→b ≠ e→s.heap.get? b = some o→h'.get? b = some o) →
    ItemR B hp F H s (eps e) (fun F h v=>∃ t T,v = .ref T∧T ∉ eps e∧EI ⟨xs.toArray⟩ t e (i + 1) h (some T)) (.tup [.int i,.str [c]]) (some (.ref s.heap.objs.size)) { s with heap:=h',toks:=tk + 1 }:=by
   rintro x h' tk ⟨u,rfl⟩ g1 g2 g3 g4
   have kk:∀ b o,b ∉ eps e→s.heap.get? b = some o→h'.get? b = some o:=fun b o hb e'=>g4 b o (bN hb em1) (bN hb em0) e'
   have R':=R.priv (tk:=tk + 1) P kk
   obtain ⟨f1,f2,f3⟩:=R.fresh
   obtain ⟨gr,R2⟩:=R'.putAt g3 f1 f2 f3
   have hTz:s.heap.objs.size ∉ eps e:=fun hm=>by
    obtain ⟨o,ho⟩:=Z.live _ hm
    exact absurd (Heap.lt_size ho) (Nat.lt_irrefl _)
   have e1:((i + 1:Nat):Int) = (i:Int) + 1:=by lia
   refine ⟨_,_,rfl,gr,rfl,R2,fun b hb=>⟨(P b hb).1,?_,(P b hb).2.2⟩,⟨t,_,rfl,hTz,by show i + 1≤xs.toArray.size; rw [List.size_toArray]; lia,⟨_,by rw [e1]; exact g1⟩,T,hT,g2⟩,?_,kk⟩
   ·show (F.put _ _).f b = none
    unfold FF.put
    dsimp only
    rw [if_neg (fun q:b = s.heap.objs.size=>hTz (by rw [← q]; exact hb))]
    exact (P b hb).2.1
   ·simp only [AVR]
    exact ⟨_,_,0,[.int i tk,.str ⟨#[c]⟩ u],rfl,FF.put_self,rfl,rfl,two ax cy⟩
  have hx:(⟨xs.toArray⟩:Str).cps[i]? = some c:=by simpa using hc
  have hsz:i < (⟨xs.toArray⟩:Str).cps.size:=by simpa using hlt
  rcases hT with rfl | rfl
  ·refine wpAny_pyNext_enum_itemD (Draws.strAscii (prog:=B.prog) (w:=B.w) (A:=A.in1) hh e ⟨xs.toArray⟩ t) he hit hsz hne (by simpa using hne) fun x h' tk a1 a2 a3 a4 a5 a6=>?_
   obtain ⟨c',u,b1,b2⟩:=a1
   rw [hx] at b1; cases b1
   exact fin x h' tk ⟨u,b2⟩ a2 a3 a4 a6
  ·refine wpAny_pyNext_enum_itemD (Draws.strWide (prog:=B.prog) (w:=B.w) (A:=A.in1) hh e ⟨xs.toArray⟩ t) he hit hsz hne (by simpa using hne) fun x h' tk a1 a2 a3 a4 a5 a6=>?_
   obtain ⟨c',u,b1,b2⟩:=a1
   rw [hx] at b1; cases b1
   exact fin x h' tk ⟨u,b2⟩ a2 a3 a4 a6
 done:=fun A hp F H s i hh R P ⟨t,Z⟩ hn=>by
  unfold jC at hn
  have hc:=Option.some.inj hn
  have hge:xs.length≤i:=by simpa using hc
  obtain ⟨old,he⟩:=Z.en
  obtain ⟨T,hT,hit⟩:=Z.it
  have hbd:i≤xs.length:=by simpa using Z.bd
  have hi:i = (⟨xs.toArray⟩:Str).cps.size:=by simp; lia
  subst hi
  have fin:∀ h',Heap.ExtBut e s.heap h'→GoR B hp F H s (eps e) (fun zz=>(none:Option Value) = none) { s with heap:=h' }:=fun h' hs=>by
   have k:∀ b o,b ∉ eps e→s.heap.get? b = some o→h'.get? b = some o:=fun b o hb e'=>hs b o (bN hb em0) e'
   exact ⟨R.priv P k,rfl,k⟩
  rcases hT with rfl | rfl
  ·exact wpAny_pyNext_enum_endD (Draws.strAscii (prog:=B.prog) (w:=B.w) (A:=A.in1) hh e ⟨xs.toArray⟩ t) he hit fin
  ·exact wpAny_pyNext_enum_endD (Draws.strWide (prog:=B.prog) (w:=B.w) (A:=A.in1) hh e ⟨xs.toArray⟩ t) he hit fin
theorem qD {P:Params} {F:FF}:∀ {bs:List Bool} {vs:List Value},af P F vs (bs.map .bool)→vs = bs.map .bool
 | [],_,h=>by simpa [af] using h
 | b :: bs,_,h=>by
  simp only [List.map_cons,af] at h
  obtain ⟨v,r,rfl,h1,h2⟩:=h
  refine Eb h1 ?_
  rw [qD h2]; rfl
theorem AS {x:AV} {bs:List Bool} (hx:LS H x (bs.map .bool)) (h:Q (.bool (bs.all id)) H):ac B n (.builtin "all") [x] H Q:=fun A hp F s vs hA R hv=>by
 refine E1 hv fun v h1=>?_
 refine hx.at R h1 fun a o m items e1 e2 e3 e4=>?_
 obtain rfl:=qD e4
 refine call_all_walk (wpAny_pyIter_list (items:=⟨bs.map .bool⟩) ⟨o,e1,e2,m,e3⟩ ?_)
 have hne:a ≠ s.heap.objs.size:=Nat.ne_of_lt (Heap.lt_size e1)
 refine ⟨_,_,_,_,_,_,fun i=>(bs[i]?).getD true,rfl,Walks.list (prog:=B.prog) (w:=B.w) (A:=A.in1) hA.1 s.heap.objs.size a hne ⟨bs.map .bool⟩,⟨⟨_,Heap.get?_push_size _ rfl,rfl,rfl⟩,⟨o,Heap.get?_push_of_some _ e1,e2,m,e3⟩⟩,?_,fun h' tk hk=>?_⟩
 ·intro i v s' Q' E' hP hQ
  have hP':(bs.map Value.bool)[i]? = some v:=by simpa using hP
  rw [List.getElem?_map] at hP'
  obtain ⟨b,hb,rfl⟩:=Option.map_eq_some_iff.mp hP'
  dsimp only at hQ
  rw [hb] at hQ
  exact wpAny_truthy_bool hQ
 ·have:(List.range (⟨bs.map Value.bool⟩:Array Value).size).all (fun i=>(bs[i]?).getD true) = bs.all id:=by
   show (List.range (bs.map Value.bool).length).all _ = _
   rw [List.length_map]
   rw [Bool.eq_iff_iff,List.all_eq_true,List.all_eq_true]
   constructor
   ·intro hh b hb
    obtain ⟨i,hi,rfl⟩:=List.getElem_of_mem hb
    have:=hh i (List.mem_range.mpr hi)
    rw [List.getElem?_eq_getElem hi] at this
    exact this
   ·intro hh i hi
    rw [List.mem_range] at hi
    rw [List.getElem?_eq_getElem hi]
    exact hh _ (List.getElem_mem hi)
  rw [this]
  have R':RelG B hp F H { s with heap:=h',toks:=tk }:=R.ext fun b o e=>hk b o (fun hb=>by
   rw [List.mem_singleton] at hb
   subst hb
   exact absurd (Heap.lt_size e) (Nat.lt_irrefl _)) (Heap.get?_push_of_some _ e)
  exact ok R' ak h
end
end
section
set_option bootstrap.genMatcherCode false
open PySem PySem.W PySem.Calls PyProof.Rows PySem.Builtin PySem.Builtin.Str PySem.SeqAt
section
variable {B:Base} {n:Nat} {H:HS} {sc:List (Str × NameKind)} {loc:Loc} {Q:AV→HS→Prop}
theorem Fc {elts:List Expr} {k:Nat} {tp:Pos} {func e:Expr} {pos:Pos} {Q:(Nat→HS→Option (Option AV))→HS→Prop}
  (h:EV B n sc loc H func fun f H1=>f = .val (.type "enumerate")∧bK B (.type "enumerate")∧EVs B n sc loc H1 pos [e] fun as H2=>∃ xs,as = [.str xs]∧Q (jC xs) H2)
  (he:autoParam (∀ env,eval (.Call func [e] [] pos) env = (do callWith pos (← eval func env) [] (backTo pos (starEach [e] env)) (backToKw pos (keywordEach [] env)))) aW)
  (hs:autoParam (∀ env,starEach [e] env = [e].map fun e=>(false,eval e env)) aW):ITV B n sc loc H (.Tuple elts k tp) (.Call func [e] [] pos) Q:=fun A hp F s env hA R=>by
 refine jD hA R h (fun F2 vs as H2 s2 g2 R2 has q2=>?_) he hs
 obtain ⟨xs,rfl,q⟩:=q2
 refine E1 has fun v h1=>?_
 refine Es h1 fun t=>?_
 refine call_enumerate_str fun h' g1 g3 g4 g8=>?_
 refine wpAny_pyIter_enum g1 ?_
 refine ⟨F2,H2,eps s2.heap.objs.size,_,_,jC xs,g2,R2.ext g8,R2.above fun b hb=>Dt (l:=[1,0]) hb,AC,⟨t,Nat.zero_le _,⟨.none,g1⟩,strIterType ⟨xs.toArray⟩,?_,g3⟩,q⟩
 unfold strIterType
 split <;> simp
theorem Ud {C:Addr} {f:Value} {mc:Value} {x:Str} {Q:Value × List AV→HS→Prop} (hg:specialIn B.K (.ref C) "__getattribute__" = some (some (.builtin "type.__getattribute__"))) (hr:readsIn B.K C mc = true) (e:findCls B.K (.ref C) mc x = some (.val f)) (hh:handedIn f = true)
  (h:Q (f,[]) H):ee B n (.val (.ref C)) x H Q:=fun pl A hp F s vs hA R hv=>by
 refine E1 hv fun v h1=>?_
 refine Ev h1 ?_
 exact method_cls R.good.X hg (cls_value R.good.X hr e hh ⟨F,(f,[]),H,.refl,R.toks,⟨rfl,.nil⟩,h⟩)
theorem zN:typeLookup (.type "list_reverseiterator") "__len__" = pure none:=by rw [typeLookup_type,builtinLookup_eq_fast]; kernel_rfl
theorem A4:typeLookup (.type "list_reverseiterator") "__length_hint__" = pure (some (.builtin "list_reverseiterator.__length_hint__")):=by rw [typeLookup_type,builtinLookup_eq_fast]; kernel_rfl
theorem uG {A:Around} {s:Shared} {I:Addr} {fp wr:List Addr} {G:Array GenState→Array GenState→Prop} {N:Nat} {P:Nat→Value→Prop} {St:Nat→Shared→Prop} {Q:List Value→Shared→Prop}
  (W:WalksS B.prog B.w A.in1 I fp wr G N P St) (hT:∀ i s,St i s→s.TypeIs (.ref I) "list_reverseiterator") (hst:St 0 s) (hfp:∀ b ∈ fp,b < s.heap.objs.size) (hI:I ∈ fp)
  (hQ:∀ s' acc,Moved wr G s s'→ItemsOf P acc N→Q acc.toList s') (hn:N≤sizeLine):wpAny (model B.prog B.w) A (collect (.ref I)) Q NoE s:=by
 have hSf:s.heap.objs.size ∉ fp:=fun hm=>Nat.lt_irrefl _ (hfp _ hm)
 have hSI:s.heap.objs.size ≠ I:=fun e=>hSf (e ▸ hI)
 unfold collect
 refine wpAny_bind (wpAny_runValue (codeAny_builtin PySem.F.entry_proto_collect ?_))
 rw [Around.under_plainId PySem.F.plain_proto_collect _]
 show wpAny _ A.in1 (newList [] >>= fun l=>again (.builtin "list.__iadd__" ⟨[l,.ref I],[]⟩)) _ _ s
 refine wpAny_bind (wpAny_newObj_type ?_ (by show (0:Nat)≤sizeLine; exact Nat.zero_le _))
 refine wpAny_pure ⟨plainId_quiet PySem.F.plain_list_iadd _,codeAny_builtin PySem.F.entry_list_iadd ?_⟩
 rw [Around.under_plainId PySem.F.plain_list_iadd _]
 have hst1:=W.frame 0 s (s.heap.push { cls:=.type "list",data:=.seq ([]:List Value).toArray }) s.toks hst (Nat.le_refl _) fun b zz o e=>Heap.get?_push_of_some _ e
 have hS1:(s.heap.push { cls:=.type "list",data:=.seq ([]:List Value).toArray }).get? s.heap.objs.size = some { cls:=.type "list",data:=.seq ([]:List Value).toArray }:=Heap.get?_push_size _ rfl
 have h1:Builtin.List.listSameRef (.ref s.heap.objs.size) (.ref I) = false:=by simp [Builtin.List.listSameRef,hSI]
 show wpAny _ A.in1 (Builtin.List.listExtendWith (.ref s.heap.objs.size) (.ref I) (.ref s.heap.objs.size)) _ _ _
 unfold Builtin.List.listExtendWith
 refine wpAny_bind (wpAny_typeOf (hT 0 _ hst1) ?_)
 rw [if_neg (by rw [h1]; decide)]
 refine wpAny_bind (W.self 0 _ _ _ hst1 ?_)
 refine wpAny_bind (wpAny_holding ?_)
 unfold Builtin.List.listLengthHint
 refine wpAny_bind (wpAny_specialOf (hT 0 _ hst1) zN ?_)
 show wpAny _ A.in1 (specialOf (Value.ref I) (Str.ofString "__length_hint__") >>= _) _ _ _
 refine wpAny_bind (wpAny_specialOf (hT 0 _ hst1) A4 ?_)
 generalize hid:("list_reverseiterator.__length_hint__":String) = id0
 wp_delta
 rw [show splitId id0 = some ("list_reverseiterator","__length_hint__") from by subst hid; decide +kernel]
 subst hid
 refine wpAny_bind (wpAny_isInstance (b:=true) (hT 0 _ hst1) (by rw [isSubtype_type]; kernel_rfl) ?_)
 refine wpAny_pure ?_
 rw [if_neg (by decide)]
 refine wpAny_pure ⟨plainId_quiet PySem.F.plain_extend_loop _,codeAny_extend_loopS W hn _ hSf _ N 0 _ _ _ rfl (Nat.zero_le _) hst1 hS1 (ItemsOf.nil P) fun s' acc' c' hm hS' hacc=>?_⟩
 show wpAny _ A (load s.heap.objs.size >>= _) _ _ s'
 refine wpAny_bind (wpAny_load hS' ?_)
 exact wpAny_pure (hQ s' acc' (Moved.drop_new (o:={ cls:=.type "list",data:=.seq ([]:List Value).toArray }) (tk:=s.toks) hm (Nat.le_refl _)) hacc)
theorem EA {items acc:Array Value} (h:ItemsOf (fun i v=>items[items.size - 1 - i]? = some v) acc items.size):acc.toList = items.toList.reverse:=by
 obtain ⟨h1,h2⟩:=h
 apply List.ext_getElem?
 intro j
 by_cases hj:j < items.size
 ·have e1:acc.toList[j]? = some acc[j]:=by simp [h1,hj]
  have:=h2 j acc[j] (by simp [h1,hj])
  rw [e1,← this,List.getElem?_reverse (by simpa using hj)]
  simp
 ·rw [List.getElem?_eq_none (by simp [h1]; lia),List.getElem?_eq_none (by simp; lia)]
theorem AI {A:Around} {s:Shared} {x:Str} {t:Tok} {l I:Addr} {items:List Value} {ys:List Str} {Q:Value→Shared→Prop} (hh:A.handled = none) (hl:s.heap.IsList l ⟨items⟩) (hi:StrsAre items ys) (hr:s.heap.IsRevIter I l ((items.length:Int) - 1)) (hne:l ≠ I)
  (hz:items.length≤sizeLine) (hok:(ys.reverse.map (fun zz=>zz.length)).sum + ys.reverse.length * x.length≤16777216)
  (h:∀ (s':Shared) (t':Tok) (k:Nat),(∀ b o,b ≠ I→s.heap.get? b = some o→s'.heap.get? b = some o)→s'.gens = s.gens→s'.drawn = s.drawn→s'.os = s.os→Q (.str (Txt.join x ys.reverse) t') { s' with toks:=k }) :
  wpAny (model B.prog B.w) A (call (.builtin "str.join") [.str x t,.ref I]) Q NoE s:=by
 refine wpAny_call (codeAny_call_builtin PySem.F.slot_str_join.plain PySem.F.entry_str_join (PySem.F.slot_str_join.check _ _ _ _ _ _ _ _ (typeIs_str _ _ _) (PySem.F.args_str_join_2 _ _) ?_))
 rw [join_tree_other]
 refine wpAny_bind (wpAny_typeOf hr.typeIs ?_)
 rw [if_neg (by decide)]
 have W:=(Walks.listRev (prog:=B.prog) (w:=B.w) (A:=A.in1.in1) hh I l hne ⟨items⟩).toS
 have hst:(0:Nat)≤(⟨items⟩:Array Value).size∧s.heap.IsRevIter I l (((⟨items⟩:Array Value).size:Int) - 1 - ((0:Nat):Int))∧s.heap.IsList l ⟨items⟩:=⟨Nat.zero_le _,by
  have:(((⟨items⟩:Array Value).size:Int) - 1 - ((0:Nat):Int)) = (items.length:Int) - 1:=by simp
  rw [this]; exact hr,hl⟩
 refine wpAny_bind (wpAny_tryCatch (W.of_in1.self 0 s _ _ hst ?_))
 have hIlt:@LT.lt Nat _ I s.heap.objs.size:=by obtain ⟨o,ho,_⟩:=hr; exact Heap.lt_size ho
 have hllt:@LT.lt Nat _ l s.heap.objs.size:=by obtain ⟨o,ho,_⟩:=hl; exact Heap.lt_size ho
 refine wpAny_bind (uG W (fun i s' st=>st.2.1.typeIs) hst (fun b hb=>by
  rcases List.mem_cons.mp hb with rfl | hb
  ·exact hIlt
  ·rw [List.mem_singleton] at hb; subst hb; exact hllt) (.head _) (fun s' acc hm hacc=>?_) hz)
 rw [EA hacc]
 have hrev:StrsAre items.reverse ys.reverse:=by
  have app:∀ {vs:List Value} {zs:List Str} {v:Value} {y:Str} {t:Tok},StrsAre vs zs→v = .str y t→StrsAre (vs++[v]) (zs++[y]):=by
   intro vs zs v y t h1 h2
   subst h2
   induction h1 with
   | nil=>exact .cons _ _ .nil
   | cons y' t' _ ih=>exact .cons y' t' ih
  have:∀ {vs:List Value} {zs:List Str},StrsAre vs zs→StrsAre vs.reverse zs.reverse:=by
   intro vs zs h1
   induction h1 with
   | nil=>exact .nil
   | cons y' t' _ ih=>rw [List.reverse_cons,List.reverse_cons]; exact app ih rfl
  exact this hi
 obtain ⟨L,hL,hT⟩:=strsAre_values hrev
 rw [hL]
 have hok':=joinOk_of (sep:=x) (ys:=L.map (fun zz=>zz.1)) (by rw [hT]; exact hok)
 unfold JoinOk at hok'
 rw [Bool.not_eq_true'] at hok'
 have g:Gives (joinTail x (strValues L)) (joinMade x L):=by
  have g0:=gives_joinTail x L hok'
  cases L with
  | nil=>exact g0
  | cons p r=>cases r with
   | nil=>exact g0
   | cons q r'=>exact g0
 refine g B.prog B.w A (wants Q NoE) s' (post_join L ⟨joinFit_length hok',fun t' k=>?_⟩)
 rw [hT]
 exact h s' t' k (fun b o hb e=>hm.heap b o (by simpa using hb) e) hm.gens hm.drawn hm.os
theorem xi {o func e:Expr} {cpos apos pos:Pos} {name:Str} {Q:AV→HS→Prop} (hname:name = "join")
  (h:EV B n sc loc H o fun a H1=>∃ sep,a = .str sep∧EV B n sc loc H1 func fun f H2=>f = .val (.type "reversed")∧bK B (.type "reversed")∧EVs B n sc loc H2 cpos [e] fun as H3=>∃ (x:AV) (ys:List (List Nat)),as = [x]∧LS H3 x (ys.map .str)∧(ys.map List.length).sum + ys.length * sep.length≤100000∧ys.length≤100000∧Q (.str (dO sep ys.reverse)) H3)
  (hm:∀ env,∃ pl,eval (.Call (.Attribute o name apos) [.Call func [e] [] cpos] [] pos) env = (do
   let ov ← eval o env
   standAt apos.atName
   let (f,first) ← holding [ov] (getMethod ov name pl)
   callWith pos f first (backTo pos (starEach [.Call func [e] [] cpos] env)) []):=by intro _; exact ⟨_,rfl⟩)
  (hs2:autoParam (∀ env,starEach [.Call func [e] [] cpos] env = [Expr.Call func [e] [] cpos].map fun e=>(false,eval e env)) aW)
  (hs3:autoParam (∀ env,starEach [Expr.Call func [e] [] cpos] env = (false,eval (.Call func [e] [] cpos) env) :: starEach [] env) aW)
  (he:autoParam (∀ env,eval (.Call func [e] [] cpos) env = (do callWith cpos (← eval func env) [] (backTo cpos (starEach [e] env)) (backToKw cpos (keywordEach [] env)))) aW)
  (hs:autoParam (∀ env,starEach [e] env = [e].map fun e=>(false,eval e env)) aW):EV B n sc loc H (.Call (.Attribute o name apos) [.Call func [e] [] cpos] [] pos) Q:=fun A hp F s env hA R=>by
 subst hname
 obtain ⟨pl,hm⟩:=hm env
 refine MethodCall_ (pl:=pl) (FV.then hA R h fun F1 vo a H1 s1 g1 R1 ho ⟨sep,ea,q1⟩=>?_) hm
 subst ea
 refine Es ho fun t=>?_
 refine PySem.GM.join ?_
 refine bW iC (hs2 env) ?_
 rw [hs3]
 refine spliced_cons (jD hA R1 q1 (fun F2 vs as H2 s2 g2 R2 has q2=>?_) he hs)
 obtain ⟨x,ys,rfl,hx,hz,hz2,q⟩:=q2
 refine E1 has fun v h1=>?_
 refine hx.at R2.g h1 fun l ol m items e1 e2 e3 e4=>?_
 refine call_reversed_list (items:=⟨items⟩) ⟨ol,e1,e2,m,e3⟩ ?_
 refine spliced_nil ⟨R2.g.good.X.keeps fun b o e=>Heap.get?_push_of_some _ e,?_⟩
 show wpAny _ A (call (.builtin "str.join") [.str ⟨sep.toArray⟩ t,.ref s2.heap.objs.size]) _ _ _
 have hlen:=e4.len
 rw [List.length_map] at hlen
 have hsep:Str.length ⟨sep.toArray⟩ = sep.length:=by show sep.toArray.size = _; simp
 have hsum:(List.map (fun zz=>zz.length) (ys.map fun y=>(⟨y.toArray⟩:Str)).reverse).sum = (ys.map List.length).sum:=by
  rw [List.map_reverse,List.map_map,List.sum_reverse]
  congr 1
 refine AI (s:={ s2 with heap:=s2.heap.push (revObj l (((⟨items⟩:Array Value).size:Int) - 1)) }) hA.1 (l:=l) ⟨ol,Heap.get?_push_of_some _ e1,e2,m,e3⟩ (ml e4) ⟨_,Heap.get?_push_size _ rfl,rfl,rfl⟩ (Nat.ne_of_lt (Heap.lt_size e1)) (by rw [hlen]; exact ay hz2) (by rw [hsum,hsep,List.length_reverse,List.length_map]; lia) fun s' t' k k1 k2 k3 k4=>?_
 have hkeep:∀ b o,s2.heap.get? b = some o→s'.heap.get? b = some o:=fun b o e=>k1 b o (Nat.ne_of_lt (Heap.lt_size e)) (Heap.get?_push_of_some _ e)
 have R3:RelF B hp F2 sc env loc H2 { s2 with heap:=s'.heap,toks:=k }:=R2.ext hkeep
 have es:({ s' with toks:=k }:Shared) = { s2 with heap:=s'.heap,toks:=k }:=by
  obtain ⟨a1,a2,a3,a4,a5⟩:=s'
  simp only at k2 k3 k4
  subst k2 k3 k4
  rfl
 rw [es]
 refine ⟨F2,_,H2,g1.trans g2,R3,?_,q⟩
 have:(ys.map fun y=>(⟨y.toArray⟩:Str)).reverse = ys.reverse.map fun y=>⟨y.toArray⟩:=by rw [List.map_reverse]
 rw [this,yI]
 exact cy
end
end
end Mine
namespace Mine.Hd
section
set_option bootstrap.genMatcherCode false
open PySem.W.BT (node nil)
noncomputable section
abbrev vn:Value:=.none
abbrev vi (i:Int):Value:=.int i 0
abbrev vs (s:Str) (t:Nat):Value:=.str s t
abbrev vt (s:String):Value:=.type s
abbrev vb (s:String):Value:=.builtin s
abbrev vr (a:Nat):Value:=.ref a
abbrev en (P:Params) (s:Str) (t:Nat) (v:Value):DictEntry:=⟨PyData.keyHash P s,.str s t,v⟩
abbrev ob (c:Value) (d:Option Addr) (x:Data):Obj:=⟨c,d,x,⟨[]⟩⟩
noncomputable def TP:Program:=PySem.Challenge.pw_pq1045_01
theorem VS:PySem.Challenge.pw_pq1045_01 = TP:=rfl
def sT:Nat→List Stmt→Stmt
 | 0,s :: _=>s
 | n + 1,_ :: l=>sT n l
 | _,[]=>.Pass default
def fb:Stmt→List Stmt
 | .FunctionDef _ _ b _ _ _ _ _ _ _=>b
 | .ClassDef _ _ _ b _ _ _ _ _ _ _=>b
 | _=>[]
def fa:Stmt→Arguments
 | .FunctionDef _ a _ _ _ _ _ _ _ _=>a
 | _=>⟨[],[],none,[],[],none,[]⟩
def fs:Stmt→Scope
 | .FunctionDef _ _ _ _ _ _ s _ _ _=>s
 | _=>default
def fn (s:Stmt) (nm qn:Str) (g:Addr) (cl:List (Str × Addr)) (df kd dc pm:Value) (an:Option Addr) (cd ct:Value) (bi:Addr):FuncData:=⟨nm,qn,fa s,.stmts (fb s),fs s,g,cl,df,kd,dc,pm,an,cd,ct,bi⟩
noncomputable def c0:String:=SL.s14018661285674007319x4
noncomputable def c71:String:=SL.s2766695959194262286x5
noncomputable def X7:String:=SL.s5856160107412720595x4
noncomputable def Zj:String:=SL.s7174869446012820540x8
noncomputable def qc (a:Str) (a':Nat) (b:Str) (b':Nat) (c:Str) (c':Nat) (i j k l m:Int) (r:Nat) (t:Bool) (u:Int) (v:Nat) (x y z:Value) (f g:Int) (d:Str) (d':Nat):Obj:=ob (vt X7) none (.fields ⟨[vs a a',vs b b',vs c c',vi i,vi j,vi k,vi l,vi m,vr r,.bool t,vi u,vr v,vn,x,y,z,vi f,vi g,vs d d']⟩)
noncomputable def qf (f:Stmt) (a b:Str) (v:Value) (c:Str) (n:Nat) (r:Nat):Obj:=ob (vt Zj) none (.func (fn f a b 3 [] v vn vn (vs c n) none (vr r) vn 0))
noncomputable def qg (f:Stmt) (a b:Str):Obj:=ob vn none (.func (fn f a b 0 [] vn vn vn vn none vn vn 0))
noncomputable def qs (l:List Value):Obj:=ob (vt c71) none (.seq ⟨l⟩ 0)
noncomputable def qd (l:List DictEntry) (n:Nat):Obj:=ob (vt c0) none (.dict ⟨l⟩ n)
noncomputable def qv (l:List Value):Obj:=ob vn none (.fields ⟨l⟩)
noncomputable def qt (c:String) (l:List Value):Obj:=ob (vt c) none (.fields ⟨l⟩)
noncomputable def nd (a:Obj) (l r:BT):BT:=node a l r
noncomputable def lf (a:Obj):BT:=node a nil nil
noncomputable def zF (n:Nat) (f:Nat→Obj→Obj):Nat→Nat→BT→BT
 | i,s,.node a l r=>bif Nat.blt i n then node (f i a) (zF n f (i + s) (2 * s) l) (zF n f (i + 2 * s) (2 * s) r) else nil
 | _,_,_=>nil
noncomputable def sx (l:List Nat):Str:=⟨⟨l⟩⟩
noncomputable def f0:=sT 0 TP.main.body
noncomputable def f2:=sT 2 TP.main.body
noncomputable def f3:=sT 3 TP.main.body
noncomputable def f4:=sT 4 TP.main.body
noncomputable def TE:=sT 0 (fb (sT 6 TP.main.body))
noncomputable def W3:=sT 0 (fb (sT 7 TP.main.body))
noncomputable def TL:=sT 0 (fb (sT 8 TP.main.body))
noncomputable def Xh:=sT 0 (fb (sT 9 TP.main.body))
noncomputable def K9:=sT 0 (fb (sT 10 TP.main.body))
noncomputable def JP:=sT 0 (fb (sT 11 TP.main.body))
noncomputable def f13:=sT 13 TP.main.body
noncomputable def f14:=sT 14 TP.main.body
noncomputable def f15:=sT 15 TP.main.body
noncomputable def Gw:=sT 0 (fb (sT 17 TP.main.body))
noncomputable def Ar:=sT 0 (fb (sT 21 TP.main.body))
noncomputable def f22:=sT 22 TP.main.body
noncomputable def Da:=sT 0 (fb f22)
noncomputable def AM:=sT 1 (fb f22)
noncomputable def GH:=sT 2 (fb f22)
noncomputable def HB:=sT 3 (fb f22)
noncomputable def Hh:=sT 4 (fb f22)
noncomputable def LQ:=sT 5 (fb f22)
noncomputable def LO:=sT 6 (fb f22)
noncomputable def AB:=sT 0 (fb (sT 23 TP.main.body))
noncomputable def Ao:=sT 0 (fb (sT 24 TP.main.body))
noncomputable def Dg:=sT 0 (fb (sT 25 TP.main.body))
noncomputable def Cp:=sT 0 (fb (sT 26 TP.main.body))
noncomputable def Mg:=sT 0 (fb (sT 27 TP.main.body))
noncomputable def Ki:=sT 0 (fb (sT 28 TP.main.body))
noncomputable def Ci:=sT 0 (fb (sT 29 TP.main.body))
noncomputable def LK:=sT 0 (fb (sT 30 TP.main.body))
noncomputable def f31:=sT 31 TP.main.body
noncomputable def f32:=sT 32 TP.main.body
noncomputable def f33:=sT 33 TP.main.body
noncomputable def f34:=sT 34 TP.main.body
noncomputable def KL:=sT 0 (fb (sT 37 TP.main.body))
noncomputable def f38:=sT 38 TP.main.body
noncomputable def f39:=sT 39 TP.main.body
noncomputable def f40:=sT 40 TP.main.body
noncomputable def f41:=sT 41 TP.main.body
noncomputable def f42:=sT 42 TP.main.body
noncomputable def f43:=sT 43 TP.main.body
noncomputable def f44:=sT 44 TP.main.body
noncomputable def f45:=sT 45 TP.main.body
noncomputable def f46:=sT 46 TP.main.body
noncomputable def f47:=sT 47 TP.main.body
noncomputable def f48:=sT 48 TP.main.body
noncomputable def f49:=sT 49 TP.main.body
noncomputable def f50:=sT 50 TP.main.body
noncomputable def f51:=sT 51 TP.main.body
noncomputable def Le:=sT 0 (fb (sT 53 TP.main.body))
noncomputable def f54:=sT 54 TP.main.body
noncomputable def f55:=sT 55 TP.main.body
noncomputable def f56:=sT 56 TP.main.body
noncomputable def f65:=sT 65 TP.main.body
noncomputable def f66:=sT 66 TP.main.body
noncomputable def f67:=sT 67 TP.main.body
noncomputable def f68:=sT 68 TP.main.body
noncomputable def f69:=sT 69 TP.main.body
noncomputable def IG:=sT 0 (fb f69)
noncomputable def Ip:=sT 1 (fb f69)
noncomputable def KT:=sT 2 (fb f69)
noncomputable def Hv:=sT 3 (fb f69)
noncomputable def Ii:=sT 4 (fb f69)
noncomputable def KF:=sT 5 (fb f69)
noncomputable def f70:=sT 70 TP.main.body
noncomputable def f71:=sT 71 TP.main.body
noncomputable def f72:=sT 72 TP.main.body
noncomputable def f73:=sT 73 TP.main.body
noncomputable def f74:=sT 74 TP.main.body
noncomputable def f75:=sT 75 TP.main.body
noncomputable def f76:=sT 76 TP.main.body
noncomputable def f77:=sT 77 TP.main.body
noncomputable def f78:=sT 78 TP.main.body
noncomputable def f79:=sT 79 TP.main.body
noncomputable def B9:=sT 0 (fb (sT 80 TP.main.body))
noncomputable def f81:=sT 81 TP.main.body
noncomputable def f82:=sT 82 TP.main.body
noncomputable def f83:=sT 83 TP.main.body
noncomputable def f84:=sT 84 TP.main.body
noncomputable def f85:=sT 85 TP.main.body
noncomputable def f86:=sT 86 TP.main.body
noncomputable def f87:=sT 87 TP.main.body
noncomputable def f88:=sT 88 TP.main.body
noncomputable def f89:=sT 89 TP.main.body
noncomputable def f90:=sT 90 TP.main.body
noncomputable def f91:=sT 91 TP.main.body
noncomputable def w8:=sT 0 (fb (sT 105 TP.main.body))
noncomputable def PV:=sT 106 TP.main.body
noncomputable def MQ:=sT 107 TP.main.body
noncomputable def OB:=sT 108 TP.main.body
noncomputable def Od:=sT 109 TP.main.body
noncomputable def NN:=sT 110 TP.main.body
noncomputable def Nh:=sT 111 TP.main.body
noncomputable def Rx:=sT 112 TP.main.body
noncomputable def nk:=sT 113 TP.main.body
noncomputable def xy:=sT 0 (fb nk)
noncomputable def wo:=sT 1 (fb nk)
noncomputable def Ca:=sT 2 (fb nk)
noncomputable def wM:=sT 3 (fb nk)
noncomputable def xA:=sT 4 (fb nk)
noncomputable def xm:=sT 5 (fb nk)
noncomputable def xS:=sT 6 (fb nk)
noncomputable def wx:=sT 7 (fb nk)
noncomputable def xq:=sT 8 (fb nk)
noncomputable def xI:=sT 9 (fb nk)
noncomputable def tU:=sT 10 (fb nk)
noncomputable def v9:=sT 0 (fb (sT 118 TP.main.body))
noncomputable def pq:=sT 119 TP.main.body
noncomputable def j1:=sT 0 (fb pq)
noncomputable def wW:=sT 1 (fb pq)
noncomputable def wY:=sT 2 (fb pq)
noncomputable def xe:=sT 3 (fb pq)
noncomputable def Cn:=sT 4 (fb pq)
noncomputable def xY:=sT 5 (fb pq)
noncomputable def wS:=sT 6 (fb pq)
noncomputable def we:=sT 7 (fb pq)
noncomputable def x9:=sT 8 (fb pq)
noncomputable def wX:=sT 9 (fb pq)
noncomputable def UE:=sT 120 TP.main.body
noncomputable def OM:=sT 125 TP.main.body
noncomputable def Rj:=sT 126 TP.main.body
noncomputable def Rs:=sT 127 TP.main.body
noncomputable def xw:=sT 128 TP.main.body
noncomputable def wp:=sT 0 (fb xw)
noncomputable def xV:=sT 1 (fb xw)
noncomputable def w9:=sT 2 (fb xw)
noncomputable def xG:=sT 3 (fb xw)
noncomputable def xN:=sT 4 (fb xw)
noncomputable def wy:=sT 5 (fb xw)
noncomputable def wk:=sT 6 (fb xw)
noncomputable def zt:=sT 129 TP.main.body
noncomputable def Qo:=sT 135 TP.main.body
noncomputable def vW:=sT 0 (fb Qo)
noncomputable def wz:=sT 1 (fb Qo)
noncomputable def wJ:=sT 2 (fb Qo)
noncomputable def Sj:=sT 136 TP.main.body
noncomputable def xU:=sT 0 (fb Sj)
noncomputable def wO:=sT 1 (fb Sj)
noncomputable def pV:=sT 137 TP.main.body
noncomputable def wN:=sT 0 (fb pV)
noncomputable def x6:=sT 1 (fb pV)
noncomputable def v5:=sT 2 (fb pV)
noncomputable def DW:=sT 3 (fb pV)
noncomputable def CF:=sT 4 (fb pV)
noncomputable def B7:=sT 5 (fb pV)
noncomputable def DI:=sT 6 (fb pV)
noncomputable def BG:=sT 7 (fb pV)
noncomputable def CX:=sT 8 (fb pV)
noncomputable def Di:=sT 9 (fb pV)
noncomputable def Ou:=sT 138 TP.main.body
noncomputable def Oy:=sT 139 TP.main.body
noncomputable def Ms:=sT 140 TP.main.body
noncomputable def NE:=sT 141 TP.main.body
noncomputable def Qt:=sT 142 TP.main.body
noncomputable def O0:=sT 143 TP.main.body
noncomputable def NG:=sT 144 TP.main.body
noncomputable def Qb:=sT 145 TP.main.body
noncomputable def Nv:=sT 146 TP.main.body
noncomputable def MK:=sT 147 TP.main.body
noncomputable def Ob:=sT 148 TP.main.body
noncomputable def N2:=sT 149 TP.main.body
noncomputable def Ni:=sT 150 TP.main.body
noncomputable def Pb:=sT 151 TP.main.body
noncomputable def MJ:=sT 152 TP.main.body
noncomputable def aO:=sT 154 TP.main.body
noncomputable def wd:=sT 0 (fb aO)
noncomputable def D3:=sT 1 (fb aO)
noncomputable def Cb:=sT 2 (fb aO)
noncomputable def DH:=sT 3 (fb aO)
noncomputable def CG:=sT 4 (fb aO)
noncomputable def Am:=sT 5 (fb aO)
noncomputable def wL:=sT 6 (fb aO)
noncomputable def BD:=sT 7 (fb aO)
noncomputable def B4:=sT 8 (fb aO)
noncomputable def xc:=sT 9 (fb aO)
noncomputable def sJ:=sT 10 (fb aO)
noncomputable def sC:=sT 11 (fb aO)
noncomputable def y5:=sT 12 (fb aO)
noncomputable def yf:=sT 13 (fb aO)
noncomputable def yw:=sT 14 (fb aO)
noncomputable def yq:=sT 15 (fb aO)
noncomputable def yB:=sT 16 (fb aO)
noncomputable def yG:=sT 17 (fb aO)
noncomputable def yA:=sT 18 (fb aO)
noncomputable def yo:=sT 19 (fb aO)
noncomputable def tz:=sT 20 (fb aO)
noncomputable def sX:=sT 21 (fb aO)
noncomputable def rF:=sT 22 (fb aO)
noncomputable def t5:=sT 23 (fb aO)
noncomputable def so:=sT 24 (fb aO)
noncomputable def sZ:=sT 25 (fb aO)
noncomputable def tm:=sT 26 (fb aO)
noncomputable def yk:=sT 27 (fb aO)
noncomputable def rA:=sT 28 (fb aO)
noncomputable def yn:=sT 29 (fb aO)
noncomputable def yV:=sT 30 (fb aO)
noncomputable def yd:=sT 31 (fb aO)
noncomputable def y1:=sT 32 (fb aO)
noncomputable def yO:=sT 33 (fb aO)
noncomputable def yu:=sT 34 (fb aO)
noncomputable def yv:=sT 35 (fb aO)
noncomputable def yX:=sT 36 (fb aO)
noncomputable def y8:=sT 37 (fb aO)
noncomputable def yi:=sT 38 (fb aO)
noncomputable def yM:=sT 39 (fb aO)
noncomputable def yW:=sT 40 (fb aO)
noncomputable def yE:=sT 41 (fb aO)
noncomputable def y6:=sT 42 (fb aO)
noncomputable def ym:=sT 43 (fb aO)
noncomputable def re:=sT 44 (fb aO)
noncomputable def tN:=sT 45 (fb aO)
noncomputable def tD:=sT 46 (fb aO)
noncomputable def yH:=sT 47 (fb aO)
noncomputable def yt:=sT 48 (fb aO)
noncomputable def rZ:=sT 49 (fb aO)
noncomputable def rX:=sT 50 (fb aO)
noncomputable def qa:=sT 156 TP.main.body
noncomputable def wB:=sT 0 (fb qa)
noncomputable def AH:=sT 1 (fb qa)
noncomputable def wm:=sT 2 (fb qa)
noncomputable def B3:=sT 3 (fb qa)
noncomputable def C7:=sT 4 (fb qa)
noncomputable def BM:=sT 5 (fb qa)
noncomputable def Cs:=sT 6 (fb qa)
noncomputable def Bw:=sT 7 (fb qa)
noncomputable def DX:=sT 8 (fb qa)
noncomputable def Bh:=sT 9 (fb qa)
noncomputable def U5:=sT 158 TP.main.body
noncomputable def wP:=sT 0 (fb U5)
noncomputable def A6:=sT 1 (fb U5)
noncomputable def Qq:=sT 160 TP.main.body
noncomputable def OH:=sT 161 TP.main.body
noncomputable def O8:=sT 162 TP.main.body
noncomputable def Qn:=sT 163 TP.main.body
noncomputable def Nk:=sT 164 TP.main.body
noncomputable def Q1:=sT 165 TP.main.body
noncomputable def NW:=sT 166 TP.main.body
noncomputable def Ra:=sT 167 TP.main.body
noncomputable def z1:=sT 168 TP.main.body
def s0:=sx [95,95,110,97,109,101,95,95]
def s1:=sx [98,117,105,108,116,105,110,115]
def s2:=sx [95,95,100,111,99,95,95]
def s3:=sx [95,95,112,97,99,107,97,103,101,95,95]
def s4:=sx [95,95,108,111,97,100,101,114,95,95]
def s5:=sx [95,95,115,112,101,99,95,95]
def s6:=sx [95,95,98,117,105,108,100,95,99,108,97,115,115,95,95]
def s7:=sx [95,95,105,109,112,111,114,116,95,95]
def s8:=sx [97,98,115]
def s9:=sx [97,108,108]
def s10:=sx [97,110,121]
def s11:=sx [97,115,99,105,105]
def s12:=sx [98,105,110]
def D5:=sx [95,95,109,97,105,110,95,95]
def At:=sx [95,95,97,110,110,111,116,97,116,105,111,110,115,95,95]
def D7:=sx [95,95,98,117,105,108,116,105,110,115,95,95]
def BQ:=sx [95,95,102,105,108,101,95,95]
def aa:=sx [47,99,108,97,105,109,47,99,117,116,46,112,121]
def BL:=sx [95,95,99,97,99,104,101,100,95,95]
def FP:=sx [60,109,111,100,117,108,101,62]
def aK:=sx [115,99,104,101,109,101,46,100,97,116,97]
def ni:=sx [95,119,97,108,108]
def oH:=sx [116,101,120,116,95,111,102,95,99,111,100,101,115]
def ny:=sx [99,111,100,101,115,95,111,102,95,116,101,120,116]
def mx:=sx [115,116,114,105,110,103,95,99,111,100,101,115]
def kR:=sx [83,99,104,101,109,101,69,114,114,111,114]
def lA:=sx [76,101,120,69,114,114,111,114]
def lO:=sx [82,101,97,100,69,114,114,111,114]
def lc:=sx [84,111,111,76,111,110,103]
def la:=sx [87,114,111,110,103,75,105,110,100]
def l5:=sx [79,117,116,79,102,82,97,110,103,101]
def nB:=sx [110,101,101,100]
def nU:=sx [115,116,114,105,110,103,95,97,114,103,117,109,101,110,116]
def m5:=sx [99,104,97,114,95,97,114,103,117,109,101,110,116]
def lD:=sx [83,112,101,99,105,97,108]
def AG:=sx [69,77,80,84,89]
def AL:=sx [85,78,83,80,69,67,73,70,73,69,68]
def Dx:=sx [69,79,70]
def kX:=sx [83,121,109,98,111,108]
def lH:=sx [83,121,109,98,111,108,84,97,98,108,101]
def lW:=sx [80,97,105,114]
def lS:=sx [67,104,97,114]
def kT:=sx [84,101,120,116]
def l8:=sx [86,101,99,116,111,114]
def PR:=sx [115,99,104,101,109,101,46,99,104,97,114,115]
def aE:=sx [95,95,109,111,100,117,108,101,95,95]
def cA:=sx [115,99,104,101,109,101,46,101,114,114,111,114,115]
def bz:=sx [95,95,113,117,97,108,110,97,109,101,95,95]
def aC:=sx [95,95,102,105,114,115,116,108,105,110,101,110,111,95,95]
def ag:=sx [95,95,105,110,105,116,95,95]
def aD:=sx [95,95,115,116,97,116,105,99,95,97,116,116,114,105,98,117,116,101,115,95,95]
def ah:=sx [115,101,108,102]
def eG:=sx [119,111,114,100]
def WQ:=sx [105,114,114,105,116,97,110,116,115]
def OS:=sx [83,99,104,101,109,101,69,114,114,111,114,46,95,95,105,110,105,116,95,95]
def aM:=sx [95,95,119,101,97,107,114,101,102,95,95]
def Fw:=sx [114,101,97,115,111,110]
def bx:=sx [112,108,97,99,101]
def PX:=sx [76,101,120,69,114,114,111,114,46,95,95,105,110,105,116,95,95]
def NH:=sx [82,101,97,100,69,114,114,111,114,46,95,95,105,110,105,116,95,95]
def CD:=sx [108,105,109,105,116]
def QC:=sx [84,111,111,76,111,110,103,46,95,95,105,110,105,116,95,95]
def dF:=sx [110,97,109,101]
def ck:=sx [100,97,116,117,109]
def Mr:=sx [87,114,111,110,103,75,105,110,100,46,95,95,105,110,105,116,95,95]
def OD:=sx [79,117,116,79,102,82,97,110,103,101,46,95,95,105,110,105,116,95,95]
def dY:=sx [115,116,111,114,101]
def bq:=sx [118,97,108,117,101]
def Pj:=sx [115,99,104,101,109,101,46,99,104,101,99,107,115]
def pW:=sx [116,105,116,108,101]
def OF:=sx [83,112,101,99,105,97,108,46,95,95,105,110,105,116,95,95]
def aQ:=sx [95,95,100,105,99,116,95,95]
def wu:=sx [101,109,112,116,121]
def ya:=sx [117,110,115,112,101,99,105,102,105,101,100]
def wg:=sx [101,111,102]
def bS:=sx [110,117,109,98,101,114]
def eW:=sx [116,101,120,116]
def OA:=sx [83,121,109,98,111,108,46,95,95,105,110,105,116,95,95]
def eS:=sx [115,121,109,98,111,108]
def oX:=sx [102,114,101,115,104]
def BX:=sx [98,121,95,110,117,109,98,101,114]
def A3:=sx [102,105,110,100]
def Az:=sx [105,115,95,105,110,116,101,114,110,101,100]
def Bn:=sx [115,105,122,101]
def Oa:=sx [83,121,109,98,111,108,84,97,98,108,101,46,95,95,105,110,105,116,95,95]
def dd:=sx [102,111,117,110,100]
def NU:=sx [83,121,109,98,111,108,84,97,98,108,101,46,115,121,109,98,111,108]
def QU:=sx [83,121,109,98,111,108,84,97,98,108,101,46,102,114,101,115,104]
def Po:=sx [83,121,109,98,111,108,84,97,98,108,101,46,98,121,95,110,117,109,98,101,114]
def OE:=sx [83,121,109,98,111,108,84,97,98,108,101,46,102,105,110,100]
def MG:=sx [83,121,109,98,111,108,84,97,98,108,101,46,105,115,95,105,110,116,101,114,110,101,100]
def MH:=sx [83,121,109,98,111,108,84,97,98,108,101,46,115,105,122,101]
def Fu:=sx [114,111,119,115]
def vY:=sx [99,97,114]
def xf:=sx [99,100,114]
def Q5:=sx [80,97,105,114,46,95,95,105,110,105,116,95,95]
def zj:=sx [109,97,114,107]
def rc:=sx [99,111,100,101]
def Pt:=sx [67,104,97,114,46,95,95,105,110,105,116,95,95]
def su:=sx [99,111,100,101,115]
def Rn:=sx [84,101,120,116,46,95,95,105,110,105,116,95,95]
def Av:=sx [116,104,105,110,103,115]
def No:=sx [86,101,99,116,111,114,46,95,95,105,110,105,116,95,95]
def bb:=sx [115,99,104,101,109,101,46,110,117,109,116,101,120,116]
def lX:=sx [66,111,120]
def l6:=sx [80,114,111,109,105,115,101]
def lB:=sx [80,111,114,116,82,101,102]
def lh:=sx [80,114,111,99,101,100,117,114,101]
def on:=sx [109,97,107,101,95,116,101,120,116]
def oj:=sx [112,121,116,104,111,110,95,116,101,120,116]
def oE:=sx [108,105,115,116,95,111,102]
def gj:=sx [105,115,95,98,111,111,108,101,97,110]
def Ed:=sx [82,69,65,67,72]
def lj:=sx [82,101,97,108]
def mJ:=sx [105,115,95,114,101,97,108]
def mD:=sx [115,105,122,101,95,111,102]
def nQ:=sx [115,105,103,110,95,111,102,95,119,104,111,108,101]
def nE:=sx [122,101,114,111,115,95,98,101,108,111,119]
def mu:=sx [108,101,97,110]
def mv:=sx [110,101,97,114,101,115,116,95,115,104,105,102,116]
def nC:=sx [115,104,105,102,116,101,100,95,114,111,117,110,100]
def mS:=sx [119,105,116,104,95,115,116,105,99,107,121]
def mC:=sx [114,111,117,110,100,101,100]
def oh:=sx [101,120,97,99,116,95,112,97,114,116,115]
def my:=sx [112,108,97,99,101,95,111,102]
def nK:=sx [115,105,103,110,95,111,102]
def n5:=sx [109,97,103,110,105,116,117,100,101]
def ng:=sx [102,117,108,108,95,109,97,110,116,105,115,115,97]
def l3:=sx [82,97,116,105,111]
def nu:=sx [103,99,100,95,111,102]
def m4:=sx [109,97,100,101]
def oD:=sx [114,97,116,105,111,95,111,102]
def AQ:=sx [70,73,71,85,82,69,83,95,110,117,109,116,101,120,116]
def eM:=sx [48,49,50,51,52,53,54,55,56,57,97,98,99,100,101,102]
def EC:=sx [99,111,110,116,101,110,116]
def Pl:=sx [66,111,120,46,95,95,105,110,105,116,95,95]
def Nx:=sx [105,115,95,100,111,110,101]
def PE:=sx [80,114,111,109,105,115,101,46,95,95,105,110,105,116,95,95]
def PK:=sx [80,111,114,116,82,101,102,46,95,95,105,110,105,116,95,95]
def QT:=sx [80,114,111,99,101,100,117,114,101,46,95,95,105,110,105,116,95,95]
def xg:=sx [116,97,105,108]
def eT:=sx [115,99,104,101,109,101,46,98,105,110,97,114,121]
def Cz:=sx [109,97,110,116,105,115,115,97]
def zw:=sx [101,120,112,111,110,101,110,116]
def Pv:=sx [82,101,97,108,46,95,95,105,110,105,116,95,95]
def Na:=sx [103,111,110,101]
def DB:=sx [107,101,112,116]
def wa:=sx [114,101,115,116]
def fo:=sx [112,114,101,99,105,115,105,111,110]
def il:=sx [116,111,112]
def iy:=sx [98,111,116,116,111,109]
def Sw:=sx [115,104,105,102,116]
def rS:=sx [114,101,97,108]
def xH:=sx [115,99,104,101,109,101,46,101,120,97,99,116]
def Q4:=sx [82,97,116,105,111,46,95,95,105,110,105,116,95,95]
def SS:=sx [111,110,101]
def OZ:=sx [111,116,104,101,114]
def FY:=sx [82,65,68,73,67,69,83]
def g9:=sx [115,99,104,101,109,101,46,112,114,105,110,116,101,114]
def Pf:=sx [77,65,82,75,83]
def xO:=sx [101,115,102,100,108]
def NR:=sx [77,79,83,84,95,69,88,80,79,78,69,78,84,95,70,73,71,85,82,69,83]
def OL:=sx [77,79,83,84,95,66,69,70,79,82,69,95,80,79,73,78,84]
def Px:=sx [77,79,83,84,95,78,79,85,71,72,84,83,95,66,69,72,73,78,68,95,80,79,73,78,84]
def NQ:=sx [70,73,71,85,82,69,83,95,65,84,95,79,78,67,69]
def rN:=sx [102,101,119,95,102,105,103,117,114,101,115]
def rM:=sx [102,105,103,117,114,101,115,95,111,102]
def sk:=sx [119,104,111,108,101,95,116,101,120,116]
def tv:=sx [101,120,97,99,116,95,116,101,120,116]
def pJ:=sx [83,117,114,114,111,117,110,100,105,110,103,115]
def rV:=sx [119,105,116,104,95,108,111,119,101,114,95,111,110,101,115]
def t8:=sx [116,101,110,115,95,97,98,111,118,101]
def sG:=sx [115,104,111,114,116,101,115,116,95,102,105,103,117,114,101,115]
def sj:=sx [119,105,116,104,111,117,116,95,110,111,117,103,104,116,115]
def tq:=sx [108,97,105,100,95,111,117,116]
def rl:=sx [100,101,99,105,109,97,108,95,116,101,120,116]
def sO:=sx [110,117,109,98,101,114,95,116,101,120,116]
def sF:=sx [119,111,114,116,104,95,111,102]
def sS:=sx [97,114,101,95,102,105,103,117,114,101,115]
def te:=sx [112,97,114,116,101,100]
def qq:=sx [82,101,97,100,105,110,103]
def tf:=sx [114,101,97,100,95,119,104,111,108,101]
def rt:=sx [114,101,97,100,95,114,97,116,105,111]
def sf:=sx [97,114,101,95,100,101,99,105,109,97,108,95,112,97,114,116,115]
def sD:=sx [114,101,97,100,95,101,120,112,111,110,101,110,116]
def tB:=sx [109,97,114,107,95,112,108,97,99,101]
def sY:=sx [114,101,97,100,95,109,97,110,116,105,115,115,97]
def rj:=sx [114,101,97,100,95,100,101,99,105,109,97,108]
def rK:=sx [114,101,97,100,95,117,110,115,105,103,110,101,100]
def rI:=sx [115,112,108,105,116,95,112,114,101,102,105,120,101,115]
def q0:=sx [102,105,110,105,115,104,101,100]
def se:=sx [112,97,114,115,101,95,110,117,109,98,101,114]
def RM:=sx [66,76,65,78,75,83]
def rh:=sx [32,10,9,13,12]
def OO:=sx [68,69,76,73,77,73,84,69,82,83]
def wv:=sx [32,10,9,13,12,40,41,34,59]
def Oz:=sx [82,69,83,69,82,86,69,68]
def xl:=sx [91,93,123,125,124]
def Ng:=sx [83,77,65,76,76]
def pD:=sx [97,98,99,100,101,102,103,104,105,106,107,108,109,110,111,112,113,114,115,116,117,118,119,120,121,122]
def M3:=sx [67,65,80,73,84,65,76,83]
def w7:=sx [65,66,67,68,69,70,71,72,73,74,75,76,77,78,79,80,81,82,83,84,85,86,87,88,89,90]
def MP:=sx [70,73,71,85,82,69,83,95,108,101,120,101,114]
def nc:=sx [48,49,50,51,52,53,54,55,56,57]
def Pa:=sx [70,73,82,83,84,95,83,73,71,78,83]
def rD:=sx [33,36,37,38,42,47,58,60,61,62,63,94,95,126]
def MW:=sx [76,65,84,69,82,95,83,73,71,78,83]
def xk:=sx [43,45,46,64]
def MV:=sx [80,69,67,85,76,73,65,82]
def QL:=sx [80,82,69,70,73,88,69,83]
def Cw:=sx [98,111,100,120,101,105]
def Mv:=sx [83,73,71,78,95,78,65,77,69,83]
def NP:=sx [81,85,79,84,65,84,73,79,78,83]
def qp:=sx [84,111,107,101,110]
def q9:=sx [102,111,108,100,101,100]
def t9:=sx [105,115,95,102,105,114,115,116]
def sr:=sx [105,115,95,108,97,116,101,114]
def tE:=sx [105,115,95,105,100,101,110,116,105,102,105,101,114]
def sL:=sx [105,115,95,110,117,109,98,101,114,108,105,107,101]
def tQ:=sx [115,105,103,110,95,110,97,109,101,100]
def sw:=sx [110,97,109,101,95,111,102,95,115,105,103,110]
def pA:=sx [76,101,120,101,114]
def PM:=sx [78,79,84,95,68,79,84,84,69,68]
def Py:=sx [66,69,72,73,78,68,95,68,79,84]
def Rc:=sx [72,65,83,95,84,65,73,76]
def oO:=sx [70,114,97,109,101]
def ph:=sx [82,101,97,100,101,114]
def rL:=sx [113,117,111,116,97,116,105,111,110,95,115,105,103,110]
def Nz:=sx [80,73,69,67,69]
def Ps:=sx [68,65,84,85,77]
def Pp:=sx [84,65,73,76]
def r8:=sx [119,114,105,116,116,101,110,95,115,105,103,110]
def rz:=sx [119,114,105,116,116,101,110,95,115,116,114,105,110,103]
def sB:=sx [111,116,104,101,114,95,116,101,120,116]
def im:=sx [114,97,100,105,120]
def Fm:=sx [112,97,114,116,115]
def xt:=sx [102,105,103,117,114,101,115]
def DV:=sx [111,118,101,114,95,112,111,119,101,114]
def AY:=sx [108,101,97,115,116,95,109,117,108,116,105,112,108,101]
def Df:=sx [103,114,101,97,116,101,115,116,95,109,117,108,116,105,112,108,101]
def Ep:=sx [103,97,112]
def CP:=sx [110,101,97,114,101,115,116,95,109,117,108,116,105,112,108,101]
def OT:=sx [83,117,114,114,111,117,110,100,105,110,103,115,46,95,95,105,110,105,116,95,95]
def pE:=sx [112,111,119,101,114]
def MT:=sx [83,117,114,114,111,117,110,100,105,110,103,115,46,111,118,101,114,95,112,111,119,101,114]
def N3:=sx [83,117,114,114,111,117,110,100,105,110,103,115,46,108,101,97,115,116,95,109,117,108,116,105,112,108,101]
def OX:=sx [83,117,114,114,111,117,110,100,105,110,103,115,46,103,114,101,97,116,101,115,116,95,109,117,108,116,105,112,108,101]
def O1:=sx [83,117,114,114,111,117,110,100,105,110,103,115,46,103,97,112]
def OQ:=sx [83,117,114,114,111,117,110,100,105,110,103,115,46,110,101,97,114,101,115,116,95,109,117,108,116,105,112,108,101]
def Uu:=sx [104,105,103,104]
def Vu:=sx [108,111,119]
def Ul:=sx [97,114,111,117,110,100]
def UF:=sx [108,101,97,115,116]
def VI:=sx [103,114,101,97,116,101,115,116]
def PY:=sx [102,105,114,115,116]
def Vz:=sx [115,101,99,111,110,100]
def Sv:=sx [98,101,104,105,110,100]
def Bs:=sx [115,105,103,110]
def FA:=sx [105,115,95,101,120,97,99,116]
def Q9:=sx [82,101,97,100,105,110,103,46,95,95,105,110,105,116,95,95]
def Wx:=sx [109,97,110,121]
def xE:=sx [108,97,115,116]
def U4:=sx [101,120,97,99,116,110,101,115,115]
def o0:=sx [97,116]
def Wj:=sx [114,101,97,100,105,110,103]
def Qr:=sx [43]
def O2:=sx [45]
def Nr:=sx [46,46,46]
def Dr:=sx [115,112,97,99,101]
def Au:=sx [32]
def BU:=sx [110,101,119,108,105,110,101]
def Eg:=sx [10]
def Rm:=sx [39]
def Oe:=sx [113,117,111,116,101]
def MD:=sx [96]
def Ot:=sx [113,117,97,115,105,113,117,111,116,101]
def PN:=sx [44]
def PO:=sx [117,110,113,117,111,116,101]
def M6:=sx [44,64]
def RJ:=sx [117,110,113,117,111,116,101,45,115,112,108,105,99,105,110,103]
def cj:=sx [115,99,104,101,109,101,46,108,101,120,101,114]
def jR:=sx [115,116,97,114,116]
def wA:=sx [101,110,100]
def QZ:=sx [84,111,107,101,110,46,95,95,105,110,105,116,95,95]
def Wa:=sx [108,101,116,116,101,114,115]
def nA:=sx [108,101,116,116,101,114]
def Om:=sx [107,110,111,119,110]
def Gf:=sx [111,119,110]
def Bm:=sx [115,107,105,112]
def Bq:=sx [112,101,101,107]
def oP:=sx [116,111,107,101,110]
def CW:=sx [119,111,114,100,95,101,110,100]
def DD:=sx [119,111,114,100,95,116,111,107,101,110]
def Ds:=sx [110,117,109,98,101,114,95,105,110]
def Ck:=sx [115,104,97,114,112]
def AW:=sx [115,105,103,110,95,116,111,107,101,110]
def kb:=sx [115,116,114,105,110,103]
def OJ:=sx [105,115,95,102,111,108,100,101,100]
def Nl:=sx [76,101,120,101,114,46,95,95,105,110,105,116,95,95]
def QB:=sx [76,101,120,101,114,46,115,107,105,112]
def N5:=sx [76,101,120,101,114,46,112,101,101,107]
def PC:=sx [76,101,120,101,114,46,116,111,107,101,110]
def RL:=sx [76,101,120,101,114,46,102,111,117,110,100]
def PT:=sx [76,101,120,101,114,46,119,111,114,100,95,101,110,100]
def RH:=sx [76,101,120,101,114,46,119,111,114,100,95,116,111,107,101,110]
def Oo:=sx [76,101,120,101,114,46,110,117,109,98,101,114,95,105,110]
def M5:=sx [76,101,120,101,114,46,115,104,97,114,112]
def Rw:=sx [76,101,120,101,114,46,115,105,103,110,95,116,111,107,101,110]
def Qe:=sx [76,101,120,101,114,46,115,116,114,105,110,103]
def ej:=sx [115,99,104,101,109,101,46,114,101,97,100,101,114]
def Q3:=sx [70,114,97,109,101,46,95,95,105,110,105,116,95,95]
def C1:=sx [114,101,97,100]
def Cf:=sx [113,117,111,116,101,100]
def Bg:=sx [111,112,101,110,115]
def Dl:=sx [100,111,116]
def By:=sx [99,108,111,115,101,100]
def pz:=sx [97,116,111,109]
def Cm:=sx [100,101,108,105,118,101,114,101,100]
def sq:=sx [116,97,98,108,101]
def FR:=sx [82,101,97,100,101,114,46,95,95,105,110,105,116,95,95]
def PB:=sx [82,101,97,100,101,114,46,112,108,97,99,101]
def Nf:=sx [82,101,97,100,101,114,46,114,101,97,100]
def NC:=sx [82,101,97,100,101,114,46,108,97,115,116]
def FI:=sx [102,114,97,109,101]
def Ov:=sx [82,101,97,100,101,114,46,113,117,111,116,101,100]
def QF:=sx [82,101,97,100,101,114,46,111,112,101,110,115]
def Qs:=sx [82,101,97,100,101,114,46,100,111,116]
def NA:=sx [82,101,97,100,101,114,46,99,108,111,115,101,100]
def PL:=sx [82,101,97,100,101,114,46,97,116,111,109]
def Og:=sx [82,101,97,100,101,114,46,100,101,108,105,118,101,114,101,100]
def aI:=sx [115,99,104,101,109,101,46,111,98,106,101,99,116,115]
def pa:=sx [80,114,105,110,116,101,114]
def mB:=sx [119,114,105,116,101,95,116,101,120,116]
def N6:=sx [79,85,84,80,85,84]
def RN:=sx [73,78,80,85,84]
def Nm:=sx [76,73,78,69,95,69,78,68]
def PA:=sx [82,65,68,73,88]
def oV:=sx [73,110,80,111,114,116]
def pT:=sx [79,117,116,80,111,114,116]
def qi:=sx [80,111,114,116,84,97,98,108,101]
def r0:=sx [112,111,114,116,95,111,102]
def rC:=sx [112,111,114,116,95,97,114,103,117,109,101,110,116]
def sV:=sx [111,112,101,110,95,97,114,103,117,109,101,110,116]
def sN:=sx [105,110,112,117,116,95,102,111,114]
def sd:=sx [111,117,116,112,117,116,95,102,111,114]
def rT:=sx [112,114,105,109,95,111,112,101,110,95,105,110,112,117,116,95,115,116,114,105,110,103]
def sv:=sx [112,114,105,109,95,111,112,101,110,95,111,117,116,112,117,116,95,115,116,114,105,110,103]
def sP:=sx [112,114,105,109,95,103,101,116,95,111,117,116,112,117,116,95,115,116,114,105,110,103]
def sQ:=sx [112,114,105,109,95,114,101,97,100]
def tw:=sx [99,104,97,114,95,111,114,95,101,110,100]
def tM:=sx [112,114,105,109,95,114,101,97,100,95,99,104,97,114]
def tC:=sx [112,114,105,109,95,112,101,101,107,95,99,104,97,114]
def rq:=sx [112,114,105,109,95,119,114,105,116,101]
def tW:=sx [112,114,105,109,95,110,101,119,108,105,110,101]
def rQ:=sx [112,114,105,109,95,119,114,105,116,101,95,99,104,97,114]
def BV:=sx [116,111,108,100]
def qx:=sx [112,117,116]
def jd:=sx [112,97,105,114]
def Wd:=sx [105,115,95,119,114,105,116,116,101,110]
def QA:=sx [80,114,105,110,116,101,114,46,95,95,105,110,105,116,95,95]
def DY:=sx [116,104,105,110,103]
def MY:=sx [80,114,105,110,116,101,114,46,116,111,108,100]
def Q6:=sx [80,114,105,110,116,101,114,46,112,117,116]
def Qa:=sx [80,114,105,110,116,101,114,46,100,97,116,117,109]
def Qx:=sx [80,114,105,110,116,101,114,46,112,97,105,114]
def On:=sx [80,114,105,110,116,101,114,46,116,97,105,108]
def Pq:=sx [80,114,105,110,116,101,114,46,97,116,111,109]
def bf:=sx [115,99,104,101,109,101,46,112,111,114,116,115]
def CA:=sx [110,101,120,116,95,99,111,100,101]
def De:=sx [114,101,115,116,95,116,101,120,116]
def PU:=sx [73,110,80,111,114,116,46,95,95,105,110,105,116,95,95]
def Q8:=sx [73,110,80,111,114,116,46,110,101,120,116,95,99,111,100,101]
def RK:=sx [73,110,80,111,114,116,46,114,101,115,116,95,116,101,120,116]
def ER:=sx [105,115,95,105,110,112,117,116]
def WH:=sx [105,115,95,111,112,101,110]
def Qh:=sx [79,117,116,80,111,114,116,46,95,95,105,110,105,116,95,95]
def Ry:=sx [79,117,116,80,111,114,116,46,112,117,116]
def CT:=sx [111,112,101,110,101,100]
def Em:=sx [115,101,116,95,105,110,112,117,116]
def Do:=sx [115,101,116,95,102,105,108,101]
def Dn:=sx [104,97,115,95,102,105,108,101]
def B1:=sx [102,105,108,101,95,116,101,120,116]
def BY:=sx [111,112,101,110,95,102,105,108,101,95,105,110]
def C2:=sx [111,112,101,110,95,102,105,108,101,95,111,117,116]
def DJ:=sx [111,117,116,112,117,116,95,116,101,120,116]
def QD:=sx [80,111,114,116,84,97,98,108,101,46,95,95,105,110,105,116,95,95]
def NZ:=sx [80,111,114,116,84,97,98,108,101,46,97,116]
def gQ:=sx [112,111,114,116]
def PG:=sx [80,111,114,116,84,97,98,108,101,46,111,112,101,110,101,100]
def Rf:=sx [80,111,114,116,84,97,98,108,101,46,115,101,116,95,105,110,112,117,116]
def QJ:=sx [80,111,114,116,84,97,98,108,101,46,115,101,116,95,102,105,108,101]
def N9:=sx [80,111,114,116,84,97,98,108,101,46,104,97,115,95,102,105,108,101]
def RA:=sx [80,111,114,116,84,97,98,108,101,46,102,105,108,101,95,116,101,120,116]
def QI:=sx [80,111,114,116,84,97,98,108,101,46,111,112,101,110,95,102,105,108,101,95,105,110]
def QP:=sx [80,111,114,116,84,97,98,108,101,46,111,112,101,110,95,102,105,108,101,95,111,117,116]
def PJ:=sx [80,111,114,116,84,97,98,108,101,46,111,117,116,112,117,116,95,116,101,120,116]
def iG:=sx [119,111,114,108,100]
def nL:=sx [97,114,103,115]
def oQ:=sx [108,97,119,95,112,113,49,48,52,53,95,48,49]
def sh:=sx [79,98,106,101,99,116,83,116,111,114,101]
def tY:=sx [78,97,109,101,115]
def r7:=sx [83,101,116,116,105,110,103]
def uP:=sx [95,108,97,119,95,100,101,99,107]
def uD:=sx [95,108,97,119,95,100,114,97,119]
def uC:=sx [95,108,97,119,95,108,101,97,102]
def vK:=sx [95,108,97,119,95,116,114,101,101]
def vA:=sx [95,108,97,119,95,109,97,100,101]
def uU:=sx [95,108,97,119,95,105,115,95,108,105,107,101]
def uJ:=sx [95,108,97,119,95,112,117,116]
def uE:=sx [95,108,97,119,95,105,115,95,110,101,120,116]
def wI:=sx [108,97,119]
def BZ:=sx [98,111,111,108,101,97,110]
def Dk:=sx [105,115,95,116,114,117,101]
def C5:=sx [105,115,95,101,109,112,116,121]
def Ec:=sx [117,110,97,115,115,105,103,110,101,100]
def Dd:=sx [105,115,95,117,110,97,115,115,105,103,110,101,100]
def B0:=sx [105,115,95,101,111,102]
def BE:=sx [105,115,95,112,97,105,114]
def Dw:=sx [115,101,116,95,99,97,114]
def BF:=sx [115,101,116,95,99,100,114]
def Cq:=sx [105,115,95,115,121,109,98,111,108]
def CH:=sx [115,121,109,98,111,108,95,110,117,109,98,101,114]
def za:=sx [99,104,97,114]
def AD:=sx [105,115,95,99,104,97,114]
def Dj:=sx [99,104,97,114,95,99,111,100,101]
def Eu:=sx [105,115,95,115,116,114,105,110,103]
def Eo:=sx [115,116,114,105,110,103,95,108,101,110,103,116,104]
def Ea:=sx [115,116,114,105,110,103,95,99,111,100,101]
def CZ:=sx [115,101,116,95,115,116,114,105,110,103,95,99,111,100,101]
def uB:=sx [118,101,99,116,111,114]
def DS:=sx [105,115,95,118,101,99,116,111,114]
def Cj:=sx [118,101,99,116,111,114,95,108,101,110,103,116,104]
def An:=sx [118,101,99,116,111,114,95,105,116,101,109]
def Bt:=sx [115,101,116,95,118,101,99,116,111,114,95,105,116,101,109]
def BP:=sx [105,115,95,110,117,109,98,101,114]
def AK:=sx [110,117,109,98,101,114,95,111,102]
def xd:=sx [98,111,120]
def Ct:=sx [117,110,98,111,120]
def D1:=sx [115,101,116,95,98,111,120]
def vd:=sx [112,114,111,109,105,115,101]
def Dm:=sx [105,115,95,112,114,111,109,105,115,101]
def B5:=sx [112,114,111,109,105,115,101,95,105,115,95,100,111,110,101]
def CQ:=sx [112,114,111,109,105,115,101,95,99,111,110,116,101,110,116]
def DG:=sx [115,101,116,116,108,101]
def DO:=sx [105,115,95,112,111,114,116]
def Du:=sx [112,111,114,116,95,110,117,109,98,101,114]
def C8:=sx [105,115,95,112,114,111,99,101,100,117,114,101]
def BA:=sx [115,97,109,101]
def CB:=sx [102,114,111,109,95,100,97,116,117,109]
def Mw:=sx [79,98,106,101,99,116,83,116,111,114,101,46,95,95,105,110,105,116,95,95]
def Oi:=sx [79,98,106,101,99,116,83,116,111,114,101,46,98,111,111,108,101,97,110]
def OK:=sx [79,98,106,101,99,116,83,116,111,114,101,46,105,115,95,98,111,111,108,101,97,110]
def OR:=sx [79,98,106,101,99,116,83,116,111,114,101,46,105,115,95,116,114,117,101]
def Pw:=sx [79,98,106,101,99,116,83,116,111,114,101,46,101,109,112,116,121]
def MX:=sx [79,98,106,101,99,116,83,116,111,114,101,46,105,115,95,101,109,112,116,121]
def Rt:=sx [79,98,106,101,99,116,83,116,111,114,101,46,117,110,115,112,101,99,105,102,105,101,100]
def M8:=sx [79,98,106,101,99,116,83,116,111,114,101,46,117,110,97,115,115,105,103,110,101,100]
def Of:=sx [79,98,106,101,99,116,83,116,111,114,101,46,105,115,95,117,110,97,115,115,105,103,110,101,100]
def RG:=sx [79,98,106,101,99,116,83,116,111,114,101,46,101,111,102]
def RC:=sx [79,98,106,101,99,116,83,116,111,114,101,46,105,115,95,101,111,102]
def Ql:=sx [79,98,106,101,99,116,83,116,111,114,101,46,112,97,105,114]
def Pu:=sx [79,98,106,101,99,116,83,116,111,114,101,46,105,115,95,112,97,105,114]
def Ow:=sx [79,98,106,101,99,116,83,116,111,114,101,46,99,97,114]
def OU:=sx [79,98,106,101,99,116,83,116,111,114,101,46,99,100,114]
def Qz:=sx [79,98,106,101,99,116,83,116,111,114,101,46,115,101,116,95,99,97,114]
def Op:=sx [79,98,106,101,99,116,83,116,111,114,101,46,115,101,116,95,99,100,114]
def Os:=sx [79,98,106,101,99,116,83,116,111,114,101,46,115,121,109,98,111,108]
def NI:=sx [79,98,106,101,99,116,83,116,111,114,101,46,105,115,95,115,121,109,98,111,108]
def NL:=sx [79,98,106,101,99,116,83,116,111,114,101,46,115,121,109,98,111,108,95,110,117,109,98,101,114]
def PP:=sx [79,98,106,101,99,116,83,116,111,114,101,46,99,104,97,114]
def QX:=sx [79,98,106,101,99,116,83,116,111,114,101,46,105,115,95,99,104,97,114]
def MB:=sx [79,98,106,101,99,116,83,116,111,114,101,46,99,104,97,114,95,99,111,100,101]
def Mu:=sx [79,98,106,101,99,116,83,116,111,114,101,46,115,116,114,105,110,103]
def MZ:=sx [79,98,106,101,99,116,83,116,111,114,101,46,105,115,95,115,116,114,105,110,103]
def Pi:=sx [79,98,106,101,99,116,83,116,111,114,101,46,115,116,114,105,110,103,95,108,101,110,103,116,104]
def NT:=sx [79,98,106,101,99,116,83,116,111,114,101,46,115,116,114,105,110,103,95,99,111,100,101]
def Qu:=sx [79,98,106,101,99,116,83,116,111,114,101,46,115,101,116,95,115,116,114,105,110,103,95,99,111,100,101]
def MU:=sx [79,98,106,101,99,116,83,116,111,114,101,46,118,101,99,116,111,114]
def Oh:=sx [79,98,106,101,99,116,83,116,111,114,101,46,105,115,95,118,101,99,116,111,114]
def Qp:=sx [79,98,106,101,99,116,83,116,111,114,101,46,118,101,99,116,111,114,95,108,101,110,103,116,104]
def Np:=sx [79,98,106,101,99,116,83,116,111,114,101,46,118,101,99,116,111,114,95,105,116,101,109]
def QY:=sx [79,98,106,101,99,116,83,116,111,114,101,46,115,101,116,95,118,101,99,116,111,114,95,105,116,101,109]
def Mz:=sx [79,98,106,101,99,116,83,116,111,114,101,46,110,117,109,98,101,114]
def ML:=sx [79,98,106,101,99,116,83,116,111,114,101,46,105,115,95,110,117,109,98,101,114]
def QK:=sx [79,98,106,101,99,116,83,116,111,114,101,46,110,117,109,98,101,114,95,111,102]
def Nd:=sx [79,98,106,101,99,116,83,116,111,114,101,46,98,111,120]
def NV:=sx [79,98,106,101,99,116,83,116,111,114,101,46,117,110,98,111,120]
def Nu:=sx [79,98,106,101,99,116,83,116,111,114,101,46,115,101,116,95,98,111,120]
def MM:=sx [79,98,106,101,99,116,83,116,111,114,101,46,112,114,111,109,105,115,101]
def PD:=sx [79,98,106,101,99,116,83,116,111,114,101,46,105,115,95,112,114,111,109,105,115,101]
def Nb:=sx [79,98,106,101,99,116,83,116,111,114,101,46,112,114,111,109,105,115,101,95,105,115,95,100,111,110,101]
def M0:=sx [79,98,106,101,99,116,83,116,111,114,101,46,112,114,111,109,105,115,101,95,99,111,110,116,101,110,116]
def QM:=sx [79,98,106,101,99,116,83,116,111,114,101,46,115,101,116,116,108,101]
def PI:=sx [79,98,106,101,99,116,83,116,111,114,101,46,112,111,114,116]
def NX:=sx [79,98,106,101,99,116,83,116,111,114,101,46,105,115,95,112,111,114,116]
def QQ:=sx [79,98,106,101,99,116,83,116,111,114,101,46,112,111,114,116,95,110,117,109,98,101,114]
def QO:=sx [79,98,106,101,99,116,83,116,111,114,101,46,105,115,95,112,114,111,99,101,100,117,114,101]
def Pe:=sx [79,98,106,101,99,116,83,116,111,114,101,46,115,97,109,101]
def My:=sx [79,98,106,101,99,116,83,116,111,114,101,46,100,97,116,117,109]
def O3:=sx [79,98,106,101,99,116,83,116,111,114,101,46,102,114,111,109,95,100,97,116,117,109]
def jM:=sx [115,99,104,101,109,101,46,110,97,109,101,115]
def Ce:=sx [110,117,109,98,101,114,95,111,102,95,110,97,109,101]
def Ax:=sx [116,101,120,116,95,111,102,95,115,121,109,98,111,108]
def DA:=sx [115,101,116,95,116,105,116,108,101]
def B8:=sx [116,105,116,108,101,95,111,102]
def Ej:=sx [103,105,118,101,95,111,112,115]
def CV:=sx [111,112,95,97,116]
def A8:=sx [102,111,108,100]
def O4:=sx [78,97,109,101,115,46,95,95,105,110,105,116,95,95]
def Qg:=sx [78,97,109,101,115,46,102,114,101,115,104]
def RE:=sx [78,97,109,101,115,46,115,121,109,98,111,108]
def ND:=sx [78,97,109,101,115,46,110,117,109,98,101,114,95,111,102,95,110,97,109,101]
def Ri:=sx [78,97,109,101,115,46,116,101,120,116,95,111,102,95,115,121,109,98,111,108]
def Vc:=sx [108,97,98,101,108]
def P9:=sx [78,97,109,101,115,46,115,101,116,95,116,105,116,108,101]
def Rd:=sx [78,97,109,101,115,46,116,105,116,108,101,95,111,102]
def NB:=sx [78,97,109,101,115,46,103,105,118,101,95,111,112,115]
def Ol:=sx [78,97,109,101,115,46,111,112,95,97,116]
def Qj:=sx [78,97,109,101,115,46,102,111,108,100]
def Ee:=sx [115,99,104,101,109,101,46,115,101,116,116,105,110,103]
def Dq:=sx [116,97,107,101,95,111,117,116,112,117,116]
def TK:=sx [112,97,116,105,101,110,99,101]
def Oj:=sx [83,101,116,116,105,110,103,46,95,95,105,110,105,116,95,95]
def Pk:=sx [83,101,116,116,105,110,103,46,116,97,107,101,95,111,117,116,112,117,116]
def QE:=sx [100,101,99,107]
def TJ:=sx [115,101,116,116,105,110,103]
noncomputable def c1:String:="builtins.__doc__:str#opaque"
noncomputable def c2:String:="builtins.__package__:str#opaque"
noncomputable def c3:String:="builtins.__loader__:shared#opaque"
noncomputable def c4:String:=SL.s11665532747177232413x24
noncomputable def c5:String:=SL.s15183661809925369436x15
noncomputable def c6:String:=SL.s13915890719876406383x10
noncomputable def c7:String:=SL.s13459172003223722735x3
noncomputable def c8:String:=SL.s10557405761357834076x3
noncomputable def c9:String:=SL.s4233737765568776869x3
noncomputable def c10:String:=SL.s2508922471967985374x5
noncomputable def c11:String:=SL.s15574269061696679450x3
noncomputable def c12:String:=SL.s6016482663378992977x10
noncomputable def c13:String:=SL.s5596568736180474577x8
noncomputable def c14:String:=SL.s2839554839881490554x3
noncomputable def c15:String:=SL.s725004073602090463x7
noncomputable def c16:String:=SL.s9436932552931045734x7
noncomputable def c17:String:=SL.s2754603736356183583x3
noncomputable def c18:String:=SL.s15185746759980889043x6
noncomputable def c19:String:=SL.s8192189862530294059x4
noncomputable def c20:String:=SL.s7038307821325472102x4
noncomputable def c21:String:=SL.s5662562618415449548x6
noncomputable def c22:String:=SL.s15281542589158584767x7
noncomputable def c23:String:=SL.s17651547275483570877x7
noncomputable def c24:String:=SL.s4036449017235975746x7
noncomputable def c25:String:=SL.s8879979712987360175x4
noncomputable def c26:String:=SL.s1801250619170735830x3
noncomputable def c27:String:=SL.s17659931425627118568x2
noncomputable def c28:String:=SL.s6063217899685152688x5
noncomputable def c29:String:=SL.s8008927332132565319x10
noncomputable def c30:String:=SL.s3544116645089599534x10
noncomputable def c31:String:=SL.s13761710972054866084x4
noncomputable def c32:String:=SL.s12896375587409280029x5
noncomputable def c33:String:=SL.s13014049009108672802x3
noncomputable def c34:String:=SL.s13935586738268321596x6
noncomputable def c35:String:=SL.s8200498257699607233x3
noncomputable def c36:String:=SL.s14114244577727609259x3
noncomputable def c37:String:=SL.s1499430450269397089x4
noncomputable def c38:String:=SL.s8755793994789770505x5
noncomputable def c39:String:=SL.s15725212667919936108x3
noncomputable def c40:String:=SL.s15791221867095933363x3
noncomputable def c41:String:=SL.s81309575031448614x3
noncomputable def c42:String:=SL.s8069831620301644142x5
noncomputable def c43:String:=SL.s10061844253413749634x4
noncomputable def c44:String:=SL.s9496514870978017513x5
noncomputable def c45:String:=SL.s8899691144933366716x7
noncomputable def c46:String:=SL.s15201008993051130160x6
noncomputable def c47:String:=SL.s741896355592496720x3
noncomputable def c48:String:=SL.s17925004256654032244x4
noncomputable def c49:String:=SL.s11695548795398191787x4
noncomputable def c50:String:=SL.s4156966113859768872x10
noncomputable def c51:String:=SL.s9501651726347032510x9
noncomputable def c52:String:=SL.s15722918466584999320x5
noncomputable def c53:String:=SL.s591115383303110208x11
noncomputable def c54:String:=SL.s15721156781594690315x7
noncomputable def c55:String:=SL.s14340494229221121180x9
noncomputable def c56:String:=SL.s13429844117177748173x6
noncomputable def c57:String:=SL.s16463266125957815391x5
noncomputable def c58:String:=SL.s4922535414793169389x9
noncomputable def c59:String:=SL.s8101838861749082086x8
noncomputable def c60:String:=SL.s7066276694103001551x3
noncomputable def c61:String:=SL.s9222952809800978799x4
noncomputable def c62:String:=SL.s462964344163437139x3
noncomputable def c63:String:=SL.s2742458400755230247x6
noncomputable def c64:String:=SL.s1438033511350832697x5
noncomputable def c65:String:=SL.s14365286008749172514x8
noncomputable def c66:String:=SL.s3642769012341782148x3
noncomputable def c67:String:=SL.s4674234679698826739x5
noncomputable def c68:String:=SL.s16656946322747308186x12
noncomputable def c69:String:=SL.s10796804682411823810x3
noncomputable def c70:String:=SL.s4290257624100764138x5
noncomputable def c72:String:=SL.s17162191345867700912x4
noncomputable def c73:String:=SL.s14339709457334898076x3
noncomputable def c74:String:=SL.s4278001404047624695x13
noncomputable def c75:String:=SL.s6585700554429387442x18
noncomputable def c76:String:=SL.s5946037652744460706x9
noncomputable def c77:String:=SL.s7410770068591931388x13
noncomputable def c78:String:=SL.s11817881795495490833x17
noncomputable def c79:String:=SL.s15679963881808890155x10
noncomputable def c80:String:=SL.s3871700062485845797x15
noncomputable def c81:String:=SL.s7689518266570723881x14
noncomputable def c82:String:=SL.s9001593270443806431x14
noncomputable def c83:String:=SL.s6882542574934516792x11
noncomputable def c84:String:=SL.s14403400214490484960x8
noncomputable def c85:String:=SL.s14457978657717015782x11
noncomputable def c86:String:=SL.s1753610191782819921x11
noncomputable def c87:String:=SL.s14119380538032626715x11
noncomputable def c88:String:=SL.s11437920000406562045x9
noncomputable def c89:String:=SL.s10852414792293593619x7
noncomputable def c90:String:=SL.s14816307405966870543x14
noncomputable def c91:String:=SL.s8682627914449686677x12
noncomputable def c92:String:=SL.s4428170145600203450x18
noncomputable def c93:String:=SL.s5991306692159431302x13
noncomputable def c94:String:=SL.s16067994140765818257x11
noncomputable def c95:String:=SL.s2327743974964600596x11
noncomputable def c96:String:=SL.s2804747833354056582x9
noncomputable def c97:String:=SL.s6070975301684473832x10
noncomputable def c98:String:=SL.s14270485950484850486x7
noncomputable def c99:String:=SL.s12041534306414923332x18
noncomputable def Zm:String:=SL.s2531307568338490285x13
noncomputable def YV:String:=SL.s631175304937289666x17
noncomputable def Zy:String:=SL.s5144983644357021410x12
noncomputable def Zf:String:=SL.s18039099521571816885x18
noncomputable def YR:String:=SL.s6011586214260557989x15
noncomputable def YF:String:=SL.s5430567037509283100x13
noncomputable def Ze:String:=SL.s8117915138073963741x13
noncomputable def Yd:String:=SL.s3423317712779056401x25
noncomputable def X4:String:=SL.s2007317383269046180x15
noncomputable def XV:String:=SL.s17481586968713580700x14
noncomputable def Yy:String:=SL.s2450899226349176912x13
noncomputable def Zq:String:=SL.s16626165730633575011x14
noncomputable def Zc:String:=SL.s14288496050688921416x11
noncomputable def Y9:String:=SL.s5735081916595925998x15
noncomputable def Zk:String:=SL.s3865607918536308442x17
noncomputable def ZA:String:=SL.s13337502604062700212x15
noncomputable def Yq:String:=SL.s13114017843053701147x15
noncomputable def X8:String:=SL.s17467278006356818441x17
noncomputable def XR:String:=SL.s17722149559621369488x16
noncomputable def YC:String:=SL.s7855274175708717672x17
noncomputable def Yk:String:=SL.s13351283678309829046x18
noncomputable def Y1:String:=SL.s6668348653404991179x15
noncomputable def Y7:String:=SL.s12913350958174193794x18
noncomputable def Yu:String:=SL.s16115879512475548326x12
noncomputable def YO:String:=SL.s15920661018069861047x16
noncomputable def Zl:String:=SL.s10779130036587390575x21
noncomputable def Zi:String:=SL.s7801419657504700863x10
noncomputable def Yg:String:=SL.s1688129525768580628x8
noncomputable def Yr:String:=SL.s1031832959479892071x19
noncomputable def Yx:String:=SL.s8991790508128307865x19
noncomputable def XQ:String:=SL.s14539662485746970245x23
noncomputable def XZ:String:=SL.s11643622729373238714x14
noncomputable def YJ:String:=SL.s3386828779285465597x17
noncomputable def Yt:String:=SL.s13042696260734638735x12
noncomputable def Zp:String:=SL.s18239426817015966623x15
noncomputable def Y2:String:=SL.s1270395311379034370x22
noncomputable def Yj:String:=SL.s10696252587037064777x22
noncomputable def Y6:String:=SL.s7852717498200857586x20
noncomputable def X5:String:=SL.s6377248116197321094x8
noncomputable def XX:String:=SL.s3834378056692298002x18
noncomputable def Y0:String:=SL.s17586630440231065808x18
noncomputable def YI:String:=SL.s15234114252648025395x21
noncomputable def YN:String:=SL.s8496462677383758984x14
noncomputable def Zt:String:=SL.s16789243406116112673x4
noncomputable def Yz:String:=SL.s14400166428656793546x20
noncomputable def YW:String:=SL.s5857708277339239366x20
noncomputable def YX:String:="builtins.copyright#opaque"
noncomputable def Yo:String:="builtins.credits#opaque"
noncomputable def Y3:String:="builtins.license#opaque"
noncomputable def XY:String:=SL.s7804999707787243718x20
noncomputable def Ek:String:=SL.s7097527257260152453x26
noncomputable def U8:String:=SL.s6658869562736209489x6
noncomputable def bm:String:=SL.s658472552662922059x5
noncomputable def bt:String:=SL.s11030030927630378310x26
noncomputable def Zb:String:=SL.s10062305145149207511x16
noncomputable def zy:String:=SL.s5160863994218179198x17
noncomputable def aP:String:=SL.s14755015743595814543x17
noncomputable def bZ:String:=SL.s10220274742760427390x26
noncomputable def bA:String:=SL.s4860613602091757760x24
noncomputable def bY:String:=SL.s11443829558043349243x14
noncomputable def cq:String:=SL.s6511155373996960695x17
noncomputable def ci:String:=SL.s12411053484034534018x21
def o1 (P:Params):=qd [(en P s1 162 (vr 4)),(en P D5 163 (vr 5))] 2
def o2:Obj:=ob vn none (.dict ⟨[]⟩ 0)
def o3 (P:Params):=qd [(en P s0 165 (vs D5 164)),(en P s2 166 vn),(en P s3 167 vn),(en P s4 168 (vb Ek)),(en P s5 169 vn),(en P At 170 (vr 6)),(en P D7 171 (vr 4)),(en P BQ 173 (vs aa 172)),(en P BL 174 vn)] 9
def o4:Obj:=ob (vt U8) (some 0) .plain
def o5:Obj:=ob (vt U8) (some 3) .plain
def o6:Obj:=qd [] 0
def o7:Obj:=qs []
def o8:Obj:=qv []
def TR (P:Params):=ob vn none (.dict ⟨[(en P (sx [116,121,112,101,46,95,95,115,117,98,99,108,97,115,115,101,115,95,95,46,69,120,99,101,112,116,105,111,110,46,48]) 243 (vi 53)),(en P (sx [116,121,112,101,46,95,95,115,117,98,99,108,97,115,115,101,115,95,95,46,69,120,99,101,112,116,105,111,110,46,110]) 244 (vi 1))]⟩ 2)
def o20:Obj:=qc ni 187 ni 188 aa 189 1 1 0 0 3 15 true 181 16 (vr 17) (vr 18) (vr 19) 191 1 aa 192
def o21:Obj:=qf f0 ni ni vn D5 164 20
def o25:Obj:=qc oH 196 oH 197 aa 198 5 1 0 0 3 22 true 181 23 vn vn (vr 24) 199 5 aa 200
def o26:Obj:=qf f2 oH oH vn PR 194 25
def o30:Obj:=qc ny 202 ny 203 aa 204 7 1 0 0 3 27 true 181 28 vn vn (vr 29) 205 7 aa 206
def o31:Obj:=qf f3 ny ny vn PR 194 30
def o35:Obj:=qc mx 208 mx 209 aa 210 9 2 0 0 3 32 true 181 33 vn vn (vr 34) 211 9 aa 212
def o36:Obj:=qf f4 mx mx vn PR 194 35
def o38:Obj:=qt bt [(vb Zb),(vt c72)]
def o49:Obj:=qc ag 228 OS 229 aa 230 14 3 0 0 3 44 true 181 45 (vr 46) (vr 47) (vr 48) 234 14 aa 235
def o50:Obj:=qf TE ag OS vn cA 214 49
def o52 (P:Params):=qd [(en P aE 223 (vs cA 214)),(en P aC 227 (.int 12 226)),(en P ag 236 (vr 50)),(en P aD 239 (vr 51)),(en P aM 241 (vr 54)),(en P s2 242 vn)] 3
def o53:Obj:=⟨(vt c72),none,(.cls ⟨kR,[(vt c76)],[(vr 53),(vt c76),(vt c74),(vt c63)],52,kR,true,[],[(vr 73),(vr 92),(vr 111),(vr 130),(vr 149)],false,none,false⟩),⟨[(some (vr 37)),none,(some (vs kR 216)),(some (vs kR 224)),(some (vb zy)),(some (.bool true))]⟩⟩
def o57:Obj:=qs [(vr 53)]
def o69:Obj:=qc ag 259 PX 260 aa 261 19 3 0 0 3 64 true 181 65 (vr 66) (vr 67) (vr 68) 265 19 aa 266
def o70:Obj:=qf W3 ag PX vn cA 214 69
def o72 (P:Params):=qd [(en P aE 254 (vs cA 214)),(en P aC 258 (.int 17 257)),(en P ag 267 (vr 70)),(en P aD 270 (vr 71)),(en P s2 271 vn)] 2
def o73:Obj:=⟨(vt c72),none,(.cls ⟨lA,[(vr 53)],[(vr 73),(vr 53),(vt c76),(vt c74),(vt c63)],72,lA,true,[],[],false,none,false⟩),⟨[(some (vr 57)),none,(some (vs lA 247)),(some (vs lA 255)),(some (vb zy)),(some (.bool true))]⟩⟩
def o88:Obj:=qc ag 286 NH 287 aa 288 25 3 0 0 3 83 true 181 84 (vr 85) (vr 86) (vr 87) 292 25 aa 293
def o89:Obj:=qf TL ag NH vn cA 214 88
def o91 (P:Params):=qd [(en P aE 281 (vs cA 214)),(en P aC 285 (.int 23 284)),(en P ag 294 (vr 89)),(en P aD 297 (vr 90)),(en P s2 298 vn)] 2
def o92:Obj:=⟨(vt c72),none,(.cls ⟨lO,[(vr 53)],[(vr 92),(vr 53),(vt c76),(vt c74),(vt c63)],91,lO,true,[],[],false,none,false⟩),⟨[(some (vr 76)),none,(some (vs lO 274)),(some (vs lO 282)),(some (vb zy)),(some (.bool true))]⟩⟩
def Si:Obj:=qc ag 313 QC 314 aa 315 31 2 0 0 3 102 true 181 103 (vr 104) (vr 105) (vr 106) 318 31 aa 319
def Sn:Obj:=qf Xh ag QC vn cA 214 107
def XD (P:Params):=qd [(en P aE 308 (vs cA 214)),(en P aC 312 (.int 29 311)),(en P ag 320 (vr 108)),(en P aD 322 (vr 109)),(en P s2 323 vn)] 2
def S4:Obj:=⟨(vt c72),none,(.cls ⟨lc,[(vr 53)],[(vr 111),(vr 53),(vt c76),(vt c74),(vt c63)],110,lc,true,[],[],false,none,false⟩),⟨[(some (vr 95)),none,(some (vs lc 301)),(some (vs lc 309)),(some (vb zy)),(some (.bool true))]⟩⟩
def Xi:Obj:=qc ag 338 Mr 339 aa 340 36 4 0 0 3 121 true 181 122 (vr 123) (vr 124) (vr 125) 345 36 aa 346
def Sq:Obj:=qf K9 ag Mr vn cA 214 126
def Sb (P:Params):=qd [(en P aE 333 (vs cA 214)),(en P aC 337 (.int 34 336)),(en P ag 347 (vr 127)),(en P aD 351 (vr 128)),(en P s2 352 vn)] 2
def Sk:Obj:=⟨(vt c72),none,(.cls ⟨la,[(vr 53)],[(vr 130),(vr 53),(vt c76),(vt c74),(vt c63)],129,la,true,[],[],false,none,false⟩),⟨[(some (vr 114)),none,(some (vs la 326)),(some (vs la 334)),(some (vb zy)),(some (.bool true))]⟩⟩
def WG:Obj:=qc ag 367 OD 368 aa 369 43 4 0 0 3 140 true 181 141 (vr 142) (vr 143) (vr 144) 374 43 aa 375
def Ww:Obj:=qf JP ag OD vn cA 214 145
def SH (P:Params):=qd [(en P aE 362 (vs cA 214)),(en P aC 366 (.int 41 365)),(en P ag 376 (vr 146)),(en P aD 380 (vr 147)),(en P s2 381 vn)] 2
def SK:Obj:=⟨(vt c72),none,(.cls ⟨l5,[(vr 53)],[(vr 149),(vr 53),(vt c76),(vt c74),(vt c63)],148,l5,true,[],[],false,none,false⟩),⟨[(some (vr 133)),none,(some (vs l5 355)),(some (vs l5 363)),(some (vb zy)),(some (.bool true))]⟩⟩
def Uz:Obj:=qc nB 386 nB 387 aa 388 49 5 0 0 3 152 true 181 153 (vr 154) (vr 155) (vr 156) 394 49 aa 395
def W7:Obj:=qf f13 nB nB vn Pj 384 157
def Xo:Obj:=qc nU 397 nU 398 aa 399 52 4 0 0 3 159 true 181 160 (vr 161) (vr 162) (vr 163) 404 52 aa 405
def RU:Obj:=qf f14 nU nU vn Pj 384 164
def UM:Obj:=qc m5 407 m5 408 aa 409 55 4 0 0 3 166 true 181 167 (vr 168) (vr 169) (vr 170) 414 55 aa 415
def SR:Obj:=qf f15 m5 m5 vn Pj 384 171
def U6:Obj:=qc ag 431 OF 432 aa 433 61 2 0 0 3 180 true 181 181 (vr 182) (vr 183) (vr 184) 436 61 aa 437
def Ub:Obj:=qf Gw ag OF vn aK 417 185
def SE (P:Params):=qd [(en P aE 426 (vs aK 417)),(en P aC 430 (.int 59 429)),(en P ag 438 (vr 186)),(en P aD 440 (vr 187)),(en P aQ 442 (vr 190)),(en P aM 444 (vr 191)),(en P s2 445 vn)] 4
def Xq:Obj:=⟨(vt c72),none,(.cls ⟨lD,[(vt c63)],[(vr 189),(vt c63)],188,lD,true,[],[],false,none,false⟩),⟨[none,none,(some (vs lD 419)),(some (vs lD 427)),(some (vb bY)),(some (.bool true))]⟩⟩
def Qv (P:Params):=qd [(en P pW 452 (vs wu 448))] 1
def FL:Obj:=ob (vr 189) (some 194) .plain
def W4 (P:Params):=qd [(en P pW 458 (vs ya 454))] 1
def Wp:Obj:=ob (vr 189) (some 197) .plain
def Xz (P:Params):=qd [(en P pW 464 (vs wg 460))] 1
def PW:Obj:=ob (vr 189) (some 200) .plain
def WZ:Obj:=qc ag 478 OA 479 aa 480 68 3 0 0 3 210 true 181 211 (vr 212) (vr 213) (vr 214) 484 68 aa 485
def UO:Obj:=qf Ar ag OA vn aK 417 215
def Vv (P:Params):=qd [(en P aE 473 (vs aK 417)),(en P aC 477 (.int 66 476)),(en P ag 486 (vr 216)),(en P aD 489 (vr 217)),(en P aQ 491 (vr 220)),(en P aM 493 (vr 221)),(en P s2 494 vn)] 4
def UQ:Obj:=⟨(vt c72),none,(.cls ⟨kX,[(vt c63)],[(vr 219),(vt c63)],218,kX,true,[],[],false,none,false⟩),⟨[none,none,(some (vs kX 466)),(some (vs kX 474)),(some (vb bY)),(some (.bool true))]⟩⟩
def Tz:Obj:=qc ag 509 Oa 510 aa 511 73 1 0 0 3 231 true 181 232 (vr 233) (vr 234) (vr 235) 513 73 aa 514
def W2:Obj:=qf Da ag Oa vn aK 417 236
def TG:Obj:=qc eS 516 NU 517 aa 518 77 2 0 0 3 238 true 181 239 (vr 240) (vr 241) (vr 242) 522 77 aa 523
def V3:Obj:=qf AM eS NU vn aK 417 243
def Xf:Obj:=qc oX 525 QU 526 aa 527 85 2 0 0 3 245 true 181 246 (vr 247) (vr 248) (vr 249) 531 85 aa 532
def UY:Obj:=qf GH oX QU vn aK 417 250
def Us:Obj:=qc BX 534 Po 535 aa 536 90 2 0 0 3 252 true 181 253 (vr 254) (vr 255) (vr 256) 539 90 aa 540
def TT:Obj:=qf HB BX Po vn aK 417 257
def V6:Obj:=qc A3 542 OE 543 aa 544 93 2 0 0 3 259 true 181 260 (vr 261) (vr 262) (vr 263) 547 93 aa 548
def UL:Obj:=qf Hh A3 OE vn aK 417 264
def VC:Obj:=qc Az 550 MG 551 aa 552 96 2 0 0 3 266 true 181 267 (vr 268) (vr 269) (vr 270) 555 96 aa 556
def Wm:Obj:=qf LQ Az MG vn aK 417 271
def Vs:Obj:=qc Bn 558 MH 559 aa 560 99 1 0 0 3 273 true 181 274 (vr 275) (vr 276) (vr 277) 562 99 aa 563
def Xd:Obj:=qf LO Bn MH vn aK 417 278
def Wc (P:Params):=qd [(en P aE 504 (vs aK 417)),(en P aC 508 (.int 71 507)),(en P ag 515 (vr 237)),(en P eS 524 (vr 244)),(en P oX 533 (vr 251)),(en P BX 541 (vr 258)),(en P A3 549 (vr 265)),(en P Az 557 (vr 272)),(en P Bn 564 (vr 279)),(en P aD 567 (vr 280)),(en P aQ 569 (vr 283)),(en P aM 571 (vr 284)),(en P s2 572 vn)] 4
def W0:Obj:=⟨(vt c72),none,(.cls ⟨lH,[(vt c63)],[(vr 282),(vt c63)],281,lH,true,[],[],false,none,false⟩),⟨[none,none,(some (vs lH 497)),(some (vs lH 505)),(some (vb bY)),(some (.bool true))]⟩⟩
def UG:Obj:=qc ag 587 Q5 588 aa 589 103 3 0 0 3 294 true 181 295 (vr 296) (vr 297) (vr 298) 593 103 aa 594
def Xj:Obj:=qf AB ag Q5 vn aK 417 299
def Ws (P:Params):=qd [(en P aE 582 (vs aK 417)),(en P aC 586 (.int 101 585)),(en P ag 595 (vr 300)),(en P aD 599 (vr 301)),(en P aQ 601 (vr 304)),(en P aM 603 (vr 305)),(en P s2 604 vn)] 4
def Vy:Obj:=⟨(vt c72),none,(.cls ⟨lW,[(vt c63)],[(vr 303),(vt c63)],302,lW,true,[],[],false,none,false⟩),⟨[none,none,(some (vs lW 575)),(some (vs lW 583)),(some (vb bY)),(some (.bool true))]⟩⟩
def WC:Obj:=qc ag 619 Pt 620 aa 621 109 2 0 0 3 315 true 181 316 (vr 317) (vr 318) (vr 319) 624 109 aa 625
def WS:Obj:=qf Ao ag Pt vn aK 417 320
def TF (P:Params):=qd [(en P aE 614 (vs aK 417)),(en P aC 618 (.int 107 617)),(en P ag 626 (vr 321)),(en P aD 628 (vr 322)),(en P aQ 630 (vr 325)),(en P aM 632 (vr 326)),(en P s2 633 vn)] 4
def UC:Obj:=⟨(vt c72),none,(.cls ⟨lS,[(vt c63)],[(vr 324),(vt c63)],323,lS,true,[],[],false,none,false⟩),⟨[none,none,(some (vs lS 607)),(some (vs lS 615)),(some (vb bY)),(some (.bool true))]⟩⟩
def UP:Obj:=qc ag 648 Rn 649 aa 650 113 2 0 0 3 336 true 181 337 (vr 338) (vr 339) (vr 340) 653 113 aa 654
def Uw:Obj:=qf Dg ag Rn vn aK 417 341
def TY (P:Params):=qd [(en P aE 643 (vs aK 417)),(en P aC 647 (.int 111 646)),(en P ag 655 (vr 342)),(en P aD 658 (vr 343)),(en P aQ 660 (vr 346)),(en P aM 662 (vr 347)),(en P s2 663 vn)] 4
def Sc:Obj:=⟨(vt c72),none,(.cls ⟨kT,[(vt c63)],[(vr 345),(vt c63)],344,kT,true,[],[],false,none,false⟩),⟨[none,none,(some (vs kT 636)),(some (vs kT 644)),(some (vb bY)),(some (.bool true))]⟩⟩
def Uf:Obj:=qc ag 678 No 679 aa 680 118 2 0 0 3 357 true 181 358 (vr 359) (vr 360) (vr 361) 683 118 aa 684
def W5:Obj:=qf Cp ag No vn aK 417 362
def SF (P:Params):=qd [(en P aE 673 (vs aK 417)),(en P aC 677 (.int 116 676)),(en P ag 685 (vr 363)),(en P aD 688 (vr 364)),(en P aQ 690 (vr 367)),(en P aM 692 (vr 368)),(en P s2 693 vn)] 4
def Vg:Obj:=⟨(vt c72),none,(.cls ⟨l8,[(vt c63)],[(vr 366),(vt c63)],365,l8,true,[],[],false,none,false⟩),⟨[none,none,(some (vs l8 666)),(some (vs l8 674)),(some (vb bY)),(some (.bool true))]⟩⟩
def Ko:Obj:=qv [(vi 1),(vi 0),(vr 20),(vi 5),(vi 0),(vr 25),(vi 7),(vi 0),(vr 30),(vi 9),(vi 0),(vr 35),(vi 12),(vi 0),(vr 42),(vi 17),(vi 0),(vr 62),(vi 23),(vi 0),(vr 81),(vi 29),(vi 0),(vr 100),(vi 34),(vi 0),(vr 119),(vi 41),(vi 0),(vr 138),(vi 49),(vi 0),(vr 157),(vi 52),(vi 0),(vr 164),(vi 55),(vi 0),(vr 171),(vi 59),(vi 0),(vr 178),(vi 66),(vi 0),(vr 208),(vi 71),(vi 0),(vr 229),(vi 101),(vi 0),(vr 292),(vi 107),(vi 0),(vr 313),(vi 111),(vi 0),(vr 334),(vi 116),(vi 0),(vr 355),(vi 121),(vi 0),(vr 376),(vi 126),(vi 0),(vr 397),(vi 132),(vi 0),(vr 418),(vi 136),(vi 0),(vr 439),(vi 140),(vi 0),(vr 458),(vi 142),(vi 0),(vr 463),(vi 144),(vi 0),(vr 471),(vi 149),(vi 0),(vr 478),(vi 153),(vi 0),(vr 485),(vi 158),(vi 0),(vr 506),(vi 160),(vi 0),(vr 513),(vi 162),(vi 0),(vr 520),(vi 164),(vi 0),(vr 527),(vi 166),(vi 0),(vr 534),(vi 173),(vi 0),(vr 541),(vi 178),(vi 0),(vr 548),(vi 183),(vi 0),(vr 555),(vi 185),(vi 0),(vr 562),(vi 194),(vi 0),(vr 569),(vi 198),(vi 0),(vr 576),(vi 200),(vi 0),(vr 583),(vi 202),(vi 0),(vr 590),(vi 204),(vi 0),(vr 597),(vi 208),(vi 0),(vr 604),(vi 213),(vi 0),(vr 625),(vi 218),(vi 0),(vr 632),(vi 220),(vi 0),(vr 639)]
def Wt:Obj:=qc ag 708 Pl 709 aa 710 123 2 0 0 3 378 true 181 379 (vr 380) (vr 381) (vr 382) 713 123 aa 714
def Uk:Obj:=qf Mg ag Pl vn aK 417 383
def UJ (P:Params):=qd [(en P aE 703 (vs aK 417)),(en P aC 707 (.int 121 706)),(en P ag 715 (vr 384)),(en P aD 718 (vr 385)),(en P aQ 720 (vr 388)),(en P aM 722 (vr 389)),(en P s2 723 vn)] 4
def U0:Obj:=⟨(vt c72),none,(.cls ⟨lX,[(vt c63)],[(vr 387),(vt c63)],386,lX,true,[],[],false,none,false⟩),⟨[none,none,(some (vs lX 696)),(some (vs lX 704)),(some (vb bY)),(some (.bool true))]⟩⟩
def WN:Obj:=qc ag 738 PE 739 aa 740 128 3 0 0 3 399 true 181 400 (vr 401) (vr 402) (vr 403) 744 128 aa 745
def XC:Obj:=qf Ki ag PE vn aK 417 404
def SN (P:Params):=qd [(en P aE 733 (vs aK 417)),(en P aC 737 (.int 126 736)),(en P ag 746 (vr 405)),(en P aD 750 (vr 406)),(en P aQ 752 (vr 409)),(en P aM 754 (vr 410)),(en P s2 755 vn)] 4
def V2:Obj:=⟨(vt c72),none,(.cls ⟨l6,[(vt c63)],[(vr 408),(vt c63)],407,l6,true,[],[],false,none,false⟩),⟨[none,none,(some (vs l6 726)),(some (vs l6 734)),(some (vb bY)),(some (.bool true))]⟩⟩
def S8:Obj:=qc ag 770 PK 771 aa 772 134 2 0 0 3 420 true 181 421 (vr 422) (vr 423) (vr 424) 775 134 aa 776
def Wi:Obj:=qf Ci ag PK vn aK 417 425
def Tt (P:Params):=qd [(en P aE 765 (vs aK 417)),(en P aC 769 (.int 132 768)),(en P ag 777 (vr 426)),(en P aD 779 (vr 427)),(en P aQ 781 (vr 430)),(en P aM 783 (vr 431)),(en P s2 784 vn)] 4
def SD:Obj:=⟨(vt c72),none,(.cls ⟨lB,[(vt c63)],[(vr 429),(vt c63)],428,lB,true,[],[],false,none,false⟩),⟨[none,none,(some (vs lB 758)),(some (vs lB 766)),(some (vb bY)),(some (.bool true))]⟩⟩
def VA:Obj:=qc ag 799 QT 800 aa 801 138 2 0 0 3 441 true 181 442 (vr 443) (vr 444) (vr 445) 804 138 aa 805
def US:Obj:=qf LK ag QT vn aK 417 446
def Uj (P:Params):=qd [(en P aE 794 (vs aK 417)),(en P aC 798 (.int 136 797)),(en P ag 806 (vr 447)),(en P aD 808 (vr 448)),(en P aQ 810 (vr 451)),(en P aM 812 (vr 452)),(en P s2 813 vn)] 4
def Sh:Obj:=⟨(vt c72),none,(.cls ⟨lh,[(vt c63)],[(vr 450),(vt c63)],449,lh,true,[],[],false,none,false⟩),⟨[none,none,(some (vs lh 787)),(some (vs lh 795)),(some (vb bY)),(some (.bool true))]⟩⟩
def U2:Obj:=qc on 816 on 817 aa 818 140 1 0 0 3 455 true 181 456 vn vn (vr 457) 819 140 aa 820
def VQ:Obj:=qf f31 on on vn aK 417 458
def U9:Obj:=qc oj 822 oj 823 aa 824 142 1 0 0 3 460 true 181 461 vn vn (vr 462) 825 142 aa 826
def WP:Obj:=qf f32 oj oj vn aK 417 463
def UU:Obj:=qs [(vr 195)]
def SO:Obj:=qc oE 828 oE 829 aa 830 144 2 0 0 3 466 true 181 467 (vr 468) (vr 469) (vr 470) 835 144 aa 836
def UX:Obj:=qf f33 oE oE (vr 465) aK 417 471
def Tu:Obj:=qc gj 838 gj 839 aa 840 149 1 0 0 3 473 true 181 474 (vr 475) (vr 476) (vr 477) 842 149 aa 843
def Wk:Obj:=qf f34 gj gj vn aK 417 478
def S7:Obj:=qc ag 863 Pv 864 aa 865 155 3 0 0 3 487 true 181 488 (vr 489) (vr 490) (vr 491) 869 155 aa 870
def Vp:Obj:=qf KL ag Pv vn eT 845 492
def Tn (P:Params):=qd [(en P aE 858 (vs eT 845)),(en P aC 862 (.int 153 861)),(en P ag 871 (vr 493)),(en P aD 874 (vr 494)),(en P aQ 876 (vr 497)),(en P aM 878 (vr 498)),(en P s2 879 vn)] 4
def T7:Obj:=⟨(vt c72),none,(.cls ⟨lj,[(vt c63)],[(vr 496),(vt c63)],495,lj,true,[],[],false,none,false⟩),⟨[none,none,(some (vs lj 851)),(some (vs lj 859)),(some (vb bY)),(some (.bool true))]⟩⟩
def VF:Obj:=qc mJ 882 mJ 883 aa 884 158 1 0 0 3 501 true 181 502 (vr 503) (vr 504) (vr 505) 886 158 aa 887
def So:Obj:=qf f38 mJ mJ vn eT 845 506
def Sa:Obj:=qc mD 889 mD 890 aa 891 160 1 0 0 3 508 true 181 509 (vr 510) (vr 511) (vr 512) 893 160 aa 894
def Vk:Obj:=qf f39 mD mD vn eT 845 513
def Wo:Obj:=qc nQ 896 nQ 897 aa 898 162 1 0 0 3 515 true 181 516 (vr 517) (vr 518) (vr 519) 900 162 aa 901
def W6:Obj:=qf f40 nQ nQ vn eT 845 520
def SZ:Obj:=qc nE 903 nE 904 aa 905 164 1 0 0 3 522 true 181 523 (vr 524) (vr 525) (vr 526) 907 164 aa 908
def VB:Obj:=qf f41 nE nE vn eT 845 527
def SA:Obj:=qc mu 910 mu 911 aa 912 166 2 0 0 3 529 true 181 530 (vr 531) (vr 532) (vr 533) 917 166 aa 918
def Xe:Obj:=qf f42 mu mu vn eT 845 534
def VT:Obj:=qc mv 920 mv 921 aa 922 173 2 0 0 3 536 true 181 537 (vr 538) (vr 539) (vr 540) 928 173 aa 929
def Vm:Obj:=qf f43 mv mv vn eT 845 541
def VD:Obj:=qc nC 931 nC 932 aa 933 178 3 0 0 3 543 true 181 544 (vr 545) (vr 546) (vr 547) 938 178 aa 939
def TN:Obj:=qf f44 nC nC vn eT 845 548
def Xc:Obj:=qc mS 941 mS 942 aa 943 183 2 0 0 3 550 true 181 551 (vr 552) (vr 553) (vr 554) 946 183 aa 947
def SM:Obj:=qf f45 mS mS vn eT 845 555
def Th:Obj:=qc mC 949 mC 950 aa 951 185 3 0 0 3 557 true 181 558 (vr 559) (vr 560) (vr 561) 958 185 aa 959
def To:Obj:=qf f46 mC mC vn eT 845 562
def TA:Obj:=qc oh 961 oh 962 aa 963 194 1 0 0 3 564 true 181 565 (vr 566) (vr 567) (vr 568) 965 194 aa 966
def UW:Obj:=qf f47 oh oh vn eT 845 569
def Vt:Obj:=qc my 968 my 969 aa 970 198 1 0 0 3 571 true 181 572 (vr 573) (vr 574) (vr 575) 972 198 aa 973
def We:Obj:=qf f48 my my vn eT 845 576
def W8:Obj:=qc nK 975 nK 976 aa 977 200 1 0 0 3 578 true 181 579 (vr 580) (vr 581) (vr 582) 979 200 aa 980
def Wz:Obj:=qf f49 nK nK vn eT 845 583
def WI:Obj:=qc n5 982 n5 983 aa 984 202 1 0 0 3 585 true 181 586 (vr 587) (vr 588) (vr 589) 986 202 aa 987
def Ug:Obj:=qf f50 n5 n5 vn eT 845 590
def SY:Obj:=qc ng 989 ng 990 aa 991 204 2 0 0 3 592 true 181 593 (vr 594) (vr 595) (vr 596) 995 204 aa 996
def Vd:Obj:=qf f51 ng ng vn eT 845 597
def SU:Obj:=qc ag 1012 Q4 1013 aa 1014 210 3 0 0 3 606 true 181 607 (vr 608) (vr 609) (vr 610) 1018 210 aa 1019
def WU:Obj:=qf Le ag Q4 vn xH 998 611
def Uh (P:Params):=qd [(en P aE 1007 (vs xH 998)),(en P aC 1011 (.int 208 1010)),(en P ag 1020 (vr 612)),(en P aD 1023 (vr 613)),(en P aQ 1025 (vr 616)),(en P aM 1027 (vr 617)),(en P s2 1028 vn)] 4
def Sg:Obj:=⟨(vt c72),none,(.cls ⟨l3,[(vt c63)],[(vr 615),(vt c63)],614,l3,true,[],[],false,none,false⟩),⟨[none,none,(some (vs l3 1000)),(some (vs l3 1008)),(some (vb bY)),(some (.bool true))]⟩⟩
def V4:Obj:=qc nu 1031 nu 1032 aa 1033 213 2 0 0 3 620 true 181 621 (vr 622) (vr 623) (vr 624) 1036 213 aa 1037
def Wl:Obj:=qf f54 nu nu vn xH 998 625
def Ui:Obj:=qc m4 1039 m4 1040 aa 1041 218 2 0 0 3 627 true 181 628 (vr 629) (vr 630) (vr 631) 1044 218 aa 1045
def TH:Obj:=qf f55 m4 m4 vn xH 998 632
def Vf:Obj:=qc oD 1047 oD 1048 aa 1049 220 2 0 0 3 634 true 181 635 (vr 636) (vr 637) (vr 638) 1053 220 aa 1054
def Xv:Obj:=qf f56 oD oD vn xH 998 639
def VZ:Obj:=qc rN 1083 rN 1084 aa 1085 233 2 0 0 3 642 true 181 643 (vr 644) (vr 645) (vr 646) 1090 233 aa 1091
def Vn:Obj:=qf f65 rN rN vn bb 1056 647
def Se:Obj:=qc rM 1093 rM 1094 aa 1095 241 2 0 0 3 649 true 181 650 (vr 651) (vr 652) (vr 653) 1102 241 aa 1103
def Xs:Obj:=qf f66 rM rM vn bb 1056 654
def Xw:Obj:=qc sk 1105 sk 1106 aa 1107 248 2 0 0 3 656 true 181 657 (vr 658) (vr 659) (vr 660) 1110 248 aa 1111
def UA:Obj:=qf f67 sk sk vn bb 1056 661
def Sm:Obj:=qc tv 1113 tv 1114 aa 1115 250 2 0 0 3 663 true 181 664 (vr 665) (vr 666) (vr 667) 1118 250 aa 1119
def W1:Obj:=qf f68 tv tv vn bb 1056 668
def Ur:Obj:=qc ag 1133 OT 1134 aa 1135 256 3 0 0 3 677 true 181 678 (vr 679) (vr 680) (vr 681) 1142 256 aa 1143
def SJ:Obj:=qf IG ag OT vn bb 1056 682
def TM:Obj:=qc DV 1145 MT 1146 aa 1147 265 3 0 0 3 684 true 181 685 (vr 686) (vr 687) (vr 688) 1151 265 aa 1152
def U7:Obj:=qf Ip DV MT vn bb 1056 689
def WR:Obj:=qc AY 1154 N3 1155 aa 1156 270 2 0 0 3 691 true 181 692 (vr 693) (vr 694) (vr 695) 1163 270 aa 1164
def TQ:Obj:=qf KT AY N3 vn bb 1056 696
def WE:Obj:=qc Df 1166 OX 1167 aa 1168 275 2 0 0 3 698 true 181 699 (vr 700) (vr 701) (vr 702) 1175 275 aa 1176
def V1:Obj:=qf Hv Df OX vn bb 1056 703
def Vr:Obj:=qc Ep 1178 O1 1179 aa 1180 280 3 0 0 3 705 true 181 706 (vr 707) (vr 708) (vr 709) 1186 280 aa 1187
def Sl:Obj:=qf Ii Ep O1 vn bb 1056 710
def Tj:Obj:=qc CP 1189 OQ 1190 aa 1191 284 2 0 0 3 712 true 181 713 (vr 714) (vr 715) (vr 716) 1198 284 aa 1199
def Sz:Obj:=qf KF CP OQ vn bb 1056 717
def Uv (P:Params):=qd [(en P aE 1128 (vs bb 1056)),(en P aC 1132 (.int 254 1131)),(en P ag 1144 (vr 683)),(en P DV 1153 (vr 690)),(en P AY 1165 (vr 697)),(en P Df 1177 (vr 704)),(en P Ep 1188 (vr 711)),(en P CP 1200 (vr 718)),(en P aD 1207 (vr 719)),(en P aQ 1209 (vr 722)),(en P aM 1211 (vr 723)),(en P s2 1212 vn)] 4
def RY:Obj:=⟨(vt c72),none,(.cls ⟨pJ,[(vt c63)],[(vr 721),(vt c63)],720,pJ,true,[],[],false,none,false⟩),⟨[none,none,(some (vs pJ 1121)),(some (vs pJ 1129)),(some (vb bY)),(some (.bool true))]⟩⟩
def Ti:Obj:=qc rV 1215 rV 1216 aa 1217 290 3 0 0 3 726 true 181 727 (vr 728) (vr 729) (vr 730) 1226 290 aa 1227
def XE:Obj:=qf f70 rV rV vn bb 1056 731
def TI:Obj:=qc t8 1229 t8 1230 aa 1231 299 1 0 0 3 733 true 181 734 (vr 735) (vr 736) (vr 737) 1234 299 aa 1235
def Vw:Obj:=qf f71 t8 t8 vn bb 1056 738
def Xk:Obj:=qc sG 1237 sG 1238 aa 1239 302 2 0 0 3 740 true 181 741 (vr 742) (vr 743) (vr 744) 1247 302 aa 1248
def Ss:Obj:=qf f72 sG sG vn bb 1056 745
def Xx:Obj:=qc sj 1250 sj 1251 aa 1252 310 2 0 0 3 747 true 181 748 (vr 749) (vr 750) (vr 751) 1256 310 aa 1257
def Sd:Obj:=qf f73 sj sj vn bb 1056 752
def VV:Obj:=qc tq 1259 tq 1260 aa 1261 313 2 0 0 3 754 true 181 755 (vr 756) (vr 757) (vr 758) 1266 313 aa 1267
def Wv:Obj:=qf f74 tq tq vn bb 1056 759
def WJ:Obj:=qc rl 1269 rl 1270 aa 1271 323 2 0 0 3 761 true 181 762 (vr 763) (vr 764) (vr 765) 1277 323 aa 1278
def UZ:Obj:=qf f75 rl rl vn bb 1056 766
def Wn:Obj:=qs [(.int 10 1280)]
def TU:Obj:=qc sO 1281 sO 1282 aa 1283 329 3 0 0 3 769 true 181 770 (vr 771) (vr 772) (vr 773) 1289 329 aa 1290
def Vq:Obj:=qf f76 sO sO (vr 768) bb 1056 774
def Vo:Obj:=qc sF 1292 sF 1293 aa 1294 336 2 0 0 3 776 true 181 777 (vr 778) (vr 779) (vr 780) 1299 336 aa 1300
def Wh:Obj:=qf f77 sF sF vn bb 1056 781
def VU:Obj:=qc sS 1302 sS 1303 aa 1304 341 2 0 0 3 783 true 181 784 vn vn (vr 785) 1305 341 aa 1306
def UV:Obj:=qf f78 sS sS vn bb 1056 786
def T8:Obj:=qc te 1308 te 1309 aa 1310 343 1 0 0 3 788 true 181 789 (vr 790) (vr 791) (vr 792) 1313 343 aa 1314
def Wb:Obj:=qf f79 te te vn bb 1056 793
def Un:Obj:=qc ag 1328 Q9 1329 aa 1330 348 4 0 0 3 802 true 181 803 (vr 804) (vr 805) (vr 806) 1335 348 aa 1336
def SI:Obj:=qf B9 ag Q9 vn bb 1056 807
def VL (P:Params):=qd [(en P aE 1323 (vs bb 1056)),(en P aC 1327 (.int 346 1326)),(en P ag 1337 (vr 808)),(en P aD 1341 (vr 809)),(en P aQ 1343 (vr 812)),(en P aM 1345 (vr 813)),(en P s2 1346 vn)] 4
def VM:Obj:=⟨(vt c72),none,(.cls ⟨qq,[(vt c63)],[(vr 811),(vt c63)],810,qq,true,[],[],false,none,false⟩),⟨[none,none,(some (vs qq 1316)),(some (vs qq 1324)),(some (vb bY)),(some (.bool true))]⟩⟩
def UT:Obj:=qc tf 1349 tf 1350 aa 1351 352 2 0 0 3 816 true 181 817 (vr 818) (vr 819) (vr 820) 1356 352 aa 1357
def VW:Obj:=qf f81 tf tf vn bb 1056 821
def RX:Obj:=qc rt 1359 rt 1360 aa 1361 357 2 0 0 3 823 true 181 824 (vr 825) (vr 826) (vr 827) 1367 357 aa 1368
def Vh:Obj:=qf f82 rt rt vn bb 1056 828
def Xb:Obj:=qc sf 1370 sf 1371 aa 1372 365 2 0 0 3 830 true 181 831 (vr 832) (vr 833) (vr 834) 1378 365 aa 1379
def VY:Obj:=qf f83 sf sf vn bb 1056 835
def Xa:Obj:=qc sD 1381 sD 1382 aa 1383 371 1 0 0 3 837 true 181 838 (vr 839) (vr 840) (vr 841) 1386 371 aa 1387
def XA:Obj:=qf f84 sD sD vn bb 1056 842
def VE:Obj:=qc tB 1389 tB 1390 aa 1391 376 1 0 0 3 844 true 181 845 vn vn (vr 846) 1392 376 aa 1393
def T4:Obj:=qf f85 tB tB vn bb 1056 847
def SP:Obj:=qc sY 1395 sY 1396 aa 1397 379 1 0 0 3 849 true 181 850 (vr 851) (vr 852) (vr 853) 1402 379 aa 1403
def UK:Obj:=qf f86 sY sY vn bb 1056 854
def VK:Obj:=qc rj 1405 rj 1406 aa 1407 388 1 0 0 3 856 true 181 857 (vr 858) (vr 859) (vr 860) 1412 388 aa 1413
def WT:Obj:=qf f87 rj rj vn bb 1056 861
def Uq:Obj:=qc rK 1415 rK 1416 aa 1417 399 2 0 0 3 863 true 181 864 (vr 865) (vr 866) (vr 867) 1420 399 aa 1421
def WB:Obj:=qf f88 rK rK vn bb 1056 868
def Vx:Obj:=qc rI 1423 rI 1424 aa 1425 405 2 0 0 3 870 true 181 871 (vr 872) (vr 873) (vr 874) 1432 405 aa 1433
def T9:Obj:=qf f89 rI rI vn bb 1056 875
def Xl:Obj:=qc q0 1435 q0 1436 aa 1437 417 4 0 0 3 877 true 181 878 (vr 879) (vr 880) (vr 881) 1442 417 aa 1443
def Wy:Obj:=qf f90 q0 q0 vn bb 1056 882
def UH:Obj:=qs [(.int 10 1445)]
def WM:Obj:=qc se 1446 se 1447 aa 1448 424 3 0 0 3 885 true 181 886 (vr 887) (vr 888) (vr 889) 1458 424 aa 1459
def VO:Obj:=qf f91 se se (vr 884) bb 1056 890
def Qm:Obj:=qs [(vs Qr 1479),(vs O2 1480),(vs Nr 1481)]
def O5:Obj:=qs [(vs Dr 1485),(vs Au 1486)]
def O6:Obj:=qs [(vs BU 1487),(vs Eg 1488)]
def Rq:Obj:=qs [(vr 893),(vr 894)]
def OW:Obj:=qs [(vs Rm 1490),(vs Oe 1491)]
def Rb:Obj:=qs [(vs MD 1492),(vs Ot 1493)]
def Oc:Obj:=qs [(vs PN 1494),(vs PO 1495)]
def MS:Obj:=qs [(vs M6 1496),(vs RJ 1497)]
def Qc:Obj:=qs [(vr 896),(vr 897),(vr 898),(vr 899)]
def Vj:Obj:=qc ag 1511 QZ 1512 aa 1513 450 5 0 0 3 908 true 181 909 (vr 910) (vr 911) (vr 912) 1519 450 aa 1520
def Ue:Obj:=qf w8 ag QZ vn cj 1461 913
def SQ (P:Params):=qd [(en P aE 1506 (vs cj 1461)),(en P aC 1510 (.int 448 1509)),(en P ag 1521 (vr 914)),(en P aD 1526 (vr 915)),(en P aQ 1528 (vr 918)),(en P aM 1530 (vr 919)),(en P s2 1531 vn)] 4
def VP:Obj:=⟨(vt c72),none,(.cls ⟨qp,[(vt c63)],[(vr 917),(vt c63)],916,qp,true,[],[],false,none,false⟩),⟨[none,none,(some (vs qp 1499)),(some (vs qp 1507)),(some (vb bY)),(some (.bool true))]⟩⟩
def Wg:Obj:=qc q9 1534 q9 1535 aa 1536 455 1 0 0 3 922 true 181 923 (vr 924) (vr 925) (vr 926) 1541 455 aa 1542
def TZ:Obj:=qf PV q9 q9 vn cj 1461 927
def Tw:Obj:=qc t9 1544 t9 1545 aa 1546 461 1 0 0 3 929 true 181 930 (vr 931) (vr 932) (vr 933) 1548 461 aa 1549
def WY:Obj:=qf MQ t9 t9 vn cj 1461 934
def UB:Obj:=qc sr 1551 sr 1552 aa 1553 463 1 0 0 3 936 true 181 937 (vr 938) (vr 939) (vr 940) 1555 463 aa 1556
def XB:Obj:=qf OB sr sr vn cj 1461 941
def U1:Obj:=qc tE 1558 tE 1559 aa 1560 465 1 0 0 3 943 true 181 944 (vr 945) (vr 946) (vr 947) 1563 465 aa 1564
def Vl:Obj:=qf Od tE tE vn cj 1461 948
def T1:Obj:=qc sL 1566 sL 1567 aa 1568 474 1 0 0 3 950 true 181 951 (vr 952) (vr 953) (vr 954) 1570 474 aa 1571
def RZ:Obj:=qf NN sL sL vn cj 1461 955
def Va:Obj:=qc tQ 1573 tQ 1574 aa 1575 476 1 0 0 3 957 true 181 958 (vr 959) (vr 960) (vr 961) 1579 476 aa 1580
def Vb:Obj:=qf Nh tQ tQ vn cj 1461 962
def TD:Obj:=qc sw 1582 sw 1583 aa 1584 481 1 0 0 3 964 true 181 965 (vr 966) (vr 967) (vr 968) 1588 481 aa 1589
def V0:Obj:=qf Rx sw sw vn cj 1461 969
def Xu:Obj:=qs [(.int 53 1603),(.bool true)]
def Ua:Obj:=qc ag 1604 Nl 1605 aa 1606 488 4 0 0 3 979 true 181 980 (vr 981) (vr 982) (vr 983) 1611 488 aa 1612
def Xm:Obj:=qf xy ag Nl (vr 978) cj 1461 984
def Tl:Obj:=qc Bm 1614 QB 1615 aa 1616 494 1 0 0 3 986 true 181 987 (vr 988) (vr 989) (vr 990) 1620 494 aa 1621
def Tf:Obj:=qf wo Bm QB vn cj 1461 991
def Su:Obj:=qc Bq 1623 N5 1624 aa 1625 505 1 0 0 3 993 true 181 994 (vr 995) (vr 996) (vr 997) 1628 505 aa 1629
def Xy:Obj:=qf Ca Bq N5 vn cj 1461 998
def Iv:Obj:=qc oP 1631 PC 1632 aa 1633 512 1 0 0 3 1000 true 181 1001 (vr 1002) (vr 1003) (vr 1004) 1638 512 aa 1639
def HA:Obj:=qf wM oP PC vn cj 1461 1005
def Hx:Obj:=qc dd 1641 RL 1642 aa 1643 529 4 0 0 3 1007 true 181 1008 (vr 1009) (vr 1010) (vr 1011) 1649 529 aa 1650
def Hy:Obj:=qf xA dd RL vn cj 1461 1012
def GU:Obj:=qc CW 1652 PT 1653 aa 1654 534 2 0 0 3 1014 true 181 1015 (vr 1016) (vr 1017) (vr 1018) 1658 534 aa 1659
def I5:Obj:=qf xm CW PT vn cj 1461 1019
def JS:Obj:=qc DD 1661 RH 1662 aa 1663 542 1 0 0 3 1021 true 181 1022 (vr 1023) (vr 1024) (vr 1025) 1669 542 aa 1670
def Hu:Obj:=qf xS DD RH vn cj 1461 1026
def IJ:Obj:=qc Ds 1672 Oo 1673 aa 1674 555 3 0 0 3 1028 true 181 1029 (vr 1030) (vr 1031) (vr 1032) 1679 555 aa 1680
def HD:Obj:=qf wx Ds Oo vn cj 1461 1033
def Ka:Obj:=qc Ck 1682 M5 1683 aa 1684 561 1 0 0 3 1035 true 181 1036 (vr 1037) (vr 1038) (vr 1039) 1689 561 aa 1690
def Jq:Obj:=qf xq Ck M5 vn cj 1461 1040
def KR:Obj:=qc AW 1692 Rw 1693 aa 1694 575 1 0 0 3 1042 true 181 1043 (vr 1044) (vr 1045) (vr 1046) 1700 575 aa 1701
def Hz:Obj:=qf xI AW Rw vn cj 1461 1047
def JO:Obj:=qc kb 1703 Qe 1704 aa 1705 588 1 0 0 3 1049 true 181 1050 (vr 1051) (vr 1052) (vr 1053) 1711 588 aa 1712
def K7:Obj:=qf tU kb Qe vn cj 1461 1054
def Lu (P:Params):=qd [(en P aE 1598 (vs cj 1461)),(en P aC 1602 (.int 486 1601)),(en P ag 1613 (vr 985)),(en P Bm 1622 (vr 992)),(en P Bq 1630 (vr 999)),(en P oP 1640 (vr 1006)),(en P dd 1651 (vr 1013)),(en P CW 1660 (vr 1020)),(en P DD 1671 (vr 1027)),(en P Ds 1681 (vr 1034)),(en P Ck 1691 (vr 1041)),(en P AW 1702 (vr 1048)),(en P kb 1713 (vr 1055)),(en P aD 1718 (vr 1056)),(en P aQ 1720 (vr 1059)),(en P aM 1722 (vr 1060)),(en P s2 1723 vn)] 4
def Hs:Obj:=⟨(vt c72),none,(.cls ⟨pA,[(vt c63)],[(vr 1058),(vt c63)],1057,pA,true,[],[],false,none,false⟩),⟨[none,none,(some (vs pA 1591)),(some (vs pA 1599)),(some (vb bY)),(some (.bool true))]⟩⟩
def IA:Obj:=qc ag 1746 Q3 1747 aa 1748 613 4 0 0 3 1070 true 181 1071 (vr 1072) (vr 1073) (vr 1074) 1753 613 aa 1754
def Gr:Obj:=qf v9 ag Q3 vn ej 1726 1075
def HZ (P:Params):=qd [(en P aE 1741 (vs ej 1726)),(en P aC 1745 (.int 611 1744)),(en P ag 1755 (vr 1076)),(en P aD 1761 (vr 1077)),(en P aQ 1763 (vr 1080)),(en P aM 1765 (vr 1081)),(en P s2 1766 vn)] 4
def JD:Obj:=⟨(vt c72),none,(.cls ⟨oO,[(vt c63)],[(vr 1079),(vt c63)],1078,oO,true,[],[],false,none,false⟩),⟨[none,none,(some (vs oO 1734)),(some (vs oO 1742)),(some (vb bY)),(some (.bool true))]⟩⟩
def KN:Obj:=qs [(.int 53 1781),(.bool true)]
def II:Obj:=qc ag 1782 FR 1783 aa 1784 621 5 0 0 3 1092 true 181 1093 (vr 1094) (vr 1095) (vr 1096) 1790 621 aa 1791
def DU:Obj:=qf j1 ag FR (vr 1091) ej 1726 1097
def LH:Obj:=qc bx 1793 PB 1794 aa 1795 626 1 0 0 3 1099 true 181 1100 (vr 1101) (vr 1102) (vr 1103) 1797 626 aa 1798
def J0:Obj:=qf wW bx PB vn ej 1726 1104
def K2:Obj:=qc C1 1800 Nf 1801 aa 1802 629 1 0 0 3 1106 true 181 1107 (vr 1108) (vr 1109) (vr 1110) 1806 629 aa 1807
def Jv:Obj:=qf wY C1 Nf vn ej 1726 1111
def HU:Obj:=qc xE 1809 NC 1810 aa 1811 646 2 0 0 3 1113 true 181 1114 (vr 1115) (vr 1116) (vr 1117) 1815 646 aa 1816
def GS:Obj:=qf xe xE NC vn ej 1726 1118
def Mm:Obj:=qc Cf 1818 Ov 1819 aa 1820 652 2 0 0 3 1120 true 181 1121 (vr 1122) (vr 1123) (vr 1124) 1824 652 aa 1825
def LN:Obj:=qf Cn Cf Ov vn ej 1726 1125
def Me:Obj:=qc Bg 1827 QF 1828 aa 1829 656 2 0 0 3 1127 true 181 1128 (vr 1129) (vr 1130) (vr 1131) 1834 656 aa 1835
def Mi:Obj:=qf xY Bg QF vn ej 1726 1132
def I6:Obj:=qc Dl 1837 Qs 1838 aa 1839 669 2 0 0 3 1134 true 181 1135 (vr 1136) (vr 1137) (vr 1138) 1843 669 aa 1844
def HM:Obj:=qf wS Dl Qs vn ej 1726 1139
def KU:Obj:=qc By 1846 NA 1847 aa 1848 677 2 0 0 3 1141 true 181 1142 (vr 1143) (vr 1144) (vr 1145) 1852 677 aa 1853
def KA:Obj:=qf we By NA vn ej 1726 1146
def Go:Obj:=qc pz 1855 PL 1856 aa 1857 690 2 0 0 3 1148 true 181 1149 (vr 1150) (vr 1151) (vr 1152) 1860 690 aa 1861
def Gx:Obj:=qf x9 pz PL vn ej 1726 1153
def Lc:Obj:=qc Cm 1863 Og 1864 aa 1865 693 3 0 0 3 1155 true 181 1156 (vr 1157) (vr 1158) (vr 1159) 1872 693 aa 1873
def JV:Obj:=qf wX Cm Og vn ej 1726 1160
def Ir (P:Params):=qd [(en P aE 1776 (vs ej 1726)),(en P aC 1780 (.int 619 1779)),(en P ag 1792 (vr 1098)),(en P bx 1799 (vr 1105)),(en P C1 1808 (vr 1112)),(en P xE 1817 (vr 1119)),(en P Cf 1826 (vr 1126)),(en P Bg 1836 (vr 1133)),(en P Dl 1845 (vr 1140)),(en P By 1854 (vr 1147)),(en P pz 1862 (vr 1154)),(en P Cm 1874 (vr 1161)),(en P aD 1878 (vr 1162)),(en P aQ 1880 (vr 1165)),(en P aM 1882 (vr 1166)),(en P s2 1883 vn)] 4
def KW:Obj:=⟨(vt c72),none,(.cls ⟨ph,[(vt c63)],[(vr 1164),(vt c63)],1163,ph,true,[],[],false,none,false⟩),⟨[none,none,(some (vs ph 1769)),(some (vs ph 1777)),(some (vb bY)),(some (.bool true))]⟩⟩
def KH:Obj:=qc rL 1886 rL 1887 aa 1888 711 2 0 0 3 1169 true 181 1170 (vr 1171) (vr 1172) (vr 1173) 1894 711 aa 1895
def ID:Obj:=qf UE rL rL vn ej 1726 1174
def LU:Obj:=qc r8 1905 r8 1906 aa 1907 723 1 0 0 3 1176 true 181 1177 (vr 1178) (vr 1179) (vr 1180) 1910 723 aa 1911
def LL:Obj:=qf OM r8 r8 vn g9 1897 1181
def Kh:Obj:=qc rz 1913 rz 1914 aa 1915 726 1 0 0 3 1183 true 181 1184 (vr 1185) (vr 1186) (vr 1187) 1919 726 aa 1920
def Li:Obj:=qf Rj rz rz vn g9 1897 1188
def Jh:Obj:=qc sB 1922 sB 1923 aa 1924 734 1 0 0 3 1190 true 181 1191 (vr 1192) (vr 1193) (vr 1194) 1926 734 aa 1927
def GC:Obj:=qf Rs sB sB vn g9 1897 1195
def Kb:Obj:=qc ag 1941 QA 1942 aa 1943 746 6 0 0 3 1204 true 181 1205 (vr 1206) (vr 1207) (vr 1208) 1950 746 aa 1951
def IR:Obj:=qf wp ag QA vn g9 1897 1209
def GF:Obj:=qc BV 1953 MY 1954 aa 1955 756 2 0 0 3 1211 true 181 1212 (vr 1213) (vr 1214) (vr 1215) 1960 756 aa 1961
def Lh:Obj:=qf xV BV MY vn g9 1897 1216
def KE:Obj:=qc qx 1963 Q6 1964 aa 1965 768 2 0 0 3 1218 true 181 1219 (vr 1220) (vr 1221) (vr 1222) 1968 768 aa 1969
def KZ:Obj:=qf w9 qx Q6 vn g9 1897 1223
def Iz:Obj:=qc ck 1971 Qa 1972 aa 1973 774 2 0 0 3 1225 true 181 1226 (vr 1227) (vr 1228) (vr 1229) 1977 774 aa 1978
def Hg:Obj:=qf xG ck Qa vn g9 1897 1230
def Hj:Obj:=qc jd 1980 Qx 1981 aa 1982 787 2 0 0 3 1232 true 181 1233 (vr 1234) (vr 1235) (vr 1236) 1986 787 aa 1987
def Ix:Obj:=qf xN jd Qx vn g9 1897 1237
def Iu:Obj:=qc xg 1989 On 1990 aa 1991 797 2 0 0 3 1239 true 181 1240 (vr 1241) (vr 1242) (vr 1243) 1994 797 aa 1995
def KO:Obj:=qf wy xg On vn g9 1897 1244
def IQ:Obj:=qc pz 1997 Pq 1998 aa 1999 809 2 0 0 3 1246 true 181 1247 (vr 1248) (vr 1249) (vr 1250) 2003 809 aa 2004
def G9:Obj:=qf wk pz Pq vn g9 1897 1251
def Gv (P:Params):=qd [(en P aE 1936 (vs g9 1897)),(en P aC 1940 (.int 744 1939)),(en P ag 1952 (vr 1210)),(en P BV 1962 (vr 1217)),(en P qx 1970 (vr 1224)),(en P ck 1979 (vr 1231)),(en P jd 1988 (vr 1238)),(en P xg 1996 (vr 1245)),(en P pz 2005 (vr 1252)),(en P aD 2014 (vr 1253)),(en P aQ 2016 (vr 1256)),(en P aM 2018 (vr 1257)),(en P s2 2019 vn)] 4
def Gm:Obj:=⟨(vt c72),none,(.cls ⟨pa,[(vt c63)],[(vr 1255),(vt c63)],1254,pa,true,[],[],false,none,false⟩),⟨[none,none,(some (vs pa 1929)),(some (vs pa 1937)),(some (vb bY)),(some (.bool true))]⟩⟩
def HL:Obj:=qs [(.int 53 2022),(.int 10 2023),vn,vn]
def HX:Obj:=qc mB 2024 mB 2025 aa 2026 822 5 0 0 3 1261 true 181 1262 (vr 1263) (vr 1264) (vr 1265) 2032 822 aa 2033
def CL:Obj:=qf zt mB mB (vr 1260) g9 1897 1266
def JA:Obj:=qc ag 2057 PU 2058 aa 2059 831 2 0 0 3 1275 true 181 1276 (vr 1277) (vr 1278) (vr 1279) 2062 831 aa 2063
def It:Obj:=qf vW ag PU vn bf 2035 1280
def Kj:Obj:=qc CA 2065 Q8 2066 aa 2067 837 1 0 0 3 1282 true 181 1283 (vr 1284) (vr 1285) (vr 1286) 2069 837 aa 2070
def JT:Obj:=qf wz CA Q8 vn bf 2035 1287
def KD:Obj:=qc De 2072 RK 2073 aa 2074 840 1 0 0 3 1289 true 181 1290 (vr 1291) (vr 1292) (vr 1293) 2076 840 aa 2077
def Lz:Obj:=qf wJ De RK vn bf 2035 1294
def LR (P:Params):=qd [(en P aE 2052 (vs bf 2035)),(en P aC 2056 (.int 829 2055)),(en P ag 2064 (vr 1281)),(en P CA 2071 (vr 1288)),(en P De 2078 (vr 1295)),(en P aD 2083 (vr 1296)),(en P aQ 2085 (vr 1299)),(en P aM 2087 (vr 1300)),(en P s2 2088 vn)] 4
def HR:Obj:=⟨(vt c72),none,(.cls ⟨oV,[(vt c63)],[(vr 1298),(vt c63)],1297,oV,true,[],[],false,none,false⟩),⟨[none,none,(some (vs oV 2045)),(some (vs oV 2053)),(some (vb bY)),(some (.bool true))]⟩⟩
def Mj:Obj:=qc ag 2103 Qh 2104 aa 2105 844 2 0 0 3 1310 true 181 1311 (vr 1312) (vr 1313) (vr 1314) 2108 844 aa 2109
def GD:Obj:=qf xU ag Qh vn bf 2035 1315
def Kn:Obj:=qc qx 2111 Ry 2112 aa 2113 849 2 0 0 3 1317 true 181 1318 (vr 1319) (vr 1320) (vr 1321) 2116 849 aa 2117
def IW:Obj:=qf wO qx Ry vn bf 2035 1322
def KG (P:Params):=qd [(en P aE 2098 (vs bf 2035)),(en P aC 2102 (.int 842 2101)),(en P ag 2110 (vr 1316)),(en P qx 2118 (vr 1323)),(en P aD 2122 (vr 1324)),(en P aQ 2124 (vr 1327)),(en P aM 2126 (vr 1328)),(en P s2 2127 vn)] 4
def LB:Obj:=⟨(vt c72),none,(.cls ⟨pT,[(vt c63)],[(vr 1326),(vt c63)],1325,pT,true,[],[],false,none,false⟩),⟨[none,none,(some (vs pT 2091)),(some (vs pT 2099)),(some (vb bY)),(some (.bool true))]⟩⟩
def Mb:Obj:=qc ag 2142 QD 2143 aa 2144 853 1 0 0 3 1338 true 181 1339 (vr 1340) (vr 1341) (vr 1342) 2146 853 aa 2147
def Mh:Obj:=qf wN ag QD vn bf 2035 1343
def K5:Obj:=qc o0 2149 NZ 2150 aa 2151 859 2 0 0 3 1345 true 181 1346 (vr 1347) (vr 1348) (vr 1349) 2154 859 aa 2155
def Lv:Obj:=qf x6 o0 NZ vn bf 2035 1350
def IU:Obj:=qc CT 2157 PG 2158 aa 2159 862 2 0 0 3 1352 true 181 1353 (vr 1354) (vr 1355) (vr 1356) 2162 862 aa 2163
def I3:Obj:=qf v5 CT PG vn bf 2035 1357
def Ho:Obj:=qc Em 2165 Rf 2166 aa 2167 866 2 0 0 3 1359 true 181 1360 (vr 1361) (vr 1362) (vr 1363) 2170 866 aa 2171
def LF:Obj:=qf DW Em Rf vn bf 2035 1364
def Jf:Obj:=qc Do 2173 QJ 2174 aa 2175 869 3 0 0 3 1366 true 181 1367 (vr 1368) (vr 1369) (vr 1370) 2179 869 aa 2180
def Lm:Obj:=qf CF Do QJ vn bf 2035 1371
def G5:Obj:=qc Dn 2182 N9 2183 aa 2184 872 2 0 0 3 1373 true 181 1374 (vr 1375) (vr 1376) (vr 1377) 2187 872 aa 2188
def LW:Obj:=qf B7 Dn N9 vn bf 2035 1378
def LG:Obj:=qc B1 2190 RA 2191 aa 2192 875 2 0 0 3 1380 true 181 1381 (vr 1382) (vr 1383) (vr 1384) 2195 875 aa 2196
def Hr:Obj:=qf DI B1 RA vn bf 2035 1385
def KY:Obj:=qc BY 2198 QI 2199 aa 2200 878 2 0 0 3 1387 true 181 1388 (vr 1389) (vr 1390) (vr 1391) 2203 878 aa 2204
def Ly:Obj:=qf BG BY QI vn bf 2035 1392
def JG:Obj:=qc C2 2206 QP 2207 aa 2208 881 2 0 0 3 1394 true 181 1395 (vr 1396) (vr 1397) (vr 1398) 2211 881 aa 2212
def L0:Obj:=qf CX C2 QP vn bf 2035 1399
def Lj:Obj:=qc DJ 2214 PJ 2215 aa 2216 884 1 0 0 3 1401 true 181 1402 (vr 1403) (vr 1404) (vr 1405) 2218 884 aa 2219
def GR:Obj:=qf Di DJ PJ vn bf 2035 1406
def H9 (P:Params):=qd [(en P aE 2137 (vs bf 2035)),(en P aC 2141 (.int 851 2140)),(en P ag 2148 (vr 1344)),(en P o0 2156 (vr 1351)),(en P CT 2164 (vr 1358)),(en P Em 2172 (vr 1365)),(en P Do 2181 (vr 1372)),(en P Dn 2189 (vr 1379)),(en P B1 2197 (vr 1386)),(en P BY 2205 (vr 1393)),(en P C2 2213 (vr 1400)),(en P DJ 2220 (vr 1407)),(en P aD 2225 (vr 1408)),(en P aQ 2227 (vr 1411)),(en P aM 2229 (vr 1412)),(en P s2 2230 vn)] 4
def GG:Obj:=⟨(vt c72),none,(.cls ⟨qi,[(vt c63)],[(vr 1410),(vt c63)],1409,qi,true,[],[],false,none,false⟩),⟨[none,none,(some (vs qi 2130)),(some (vs qi 2138)),(some (vb bY)),(some (.bool true))]⟩⟩
def KQ:Obj:=qc r0 2233 r0 2234 aa 2235 886 3 0 0 3 1415 true 181 1416 (vr 1417) (vr 1418) (vr 1419) 2239 886 aa 2240
def I7:Obj:=qf Ou r0 r0 vn bf 2035 1420
def Jz:Obj:=qc rC 2242 rC 2243 aa 2244 888 6 0 0 3 1422 true 181 1423 (vr 1424) (vr 1425) (vr 1426) 2252 888 aa 2253
def GJ:Obj:=qf Oy rC rC vn bf 2035 1427
def Ma:Obj:=qc sV 2255 sV 2256 aa 2257 892 6 0 0 3 1429 true 181 1430 (vr 1431) (vr 1432) (vr 1433) 2265 892 aa 2266
def Iy:Obj:=qf Ms sV sV vn bf 2035 1434
def Gn:Obj:=qc sN 2268 sN 2269 aa 2270 896 5 0 0 3 1436 true 181 1437 (vr 1438) (vr 1439) (vr 1440) 2277 896 aa 2278
def G4:Obj:=qf NE sN sN vn bf 2035 1441
def Ks:Obj:=qc sd 2280 sd 2281 aa 2282 899 5 0 0 3 1443 true 181 1444 (vr 1445) (vr 1446) (vr 1447) 2289 899 aa 2290
def Im:Obj:=qf Qt sd sd vn bf 2035 1448
def Lk:Obj:=qc rT 2292 rT 2293 aa 2294 902 3 0 0 3 1450 true 181 1451 (vr 1452) (vr 1453) (vr 1454) 2299 902 aa 2300
def HY:Obj:=qf O0 rT rT vn bf 2035 1455
def Il:Obj:=qc sv 2302 sv 2303 aa 2304 905 3 0 0 3 1457 true 181 1458 (vr 1459) (vr 1460) (vr 1461) 2308 905 aa 2309
def Je:Obj:=qf NG sv sv vn bf 2035 1462
def L9:Obj:=qc sP 2311 sP 2312 aa 2313 907 3 0 0 3 1464 true 181 1465 (vr 1466) (vr 1467) (vr 1468) 2318 907 aa 2319
def Kc:Obj:=qf Qb sP sP vn bf 2035 1469
def I9:Obj:=qc sQ 2321 sQ 2322 aa 2323 910 3 0 0 3 1471 true 181 1472 (vr 1473) (vr 1474) (vr 1475) 2330 910 aa 2331
def HH:Obj:=qf Nv sQ sQ vn bf 2035 1476
def Hk:Obj:=qc tw 2333 tw 2334 aa 2335 916 2 0 0 3 1478 true 181 1479 (vr 1480) (vr 1481) (vr 1482) 2338 916 aa 2339
def Jp:Obj:=qf MK tw tw vn bf 2035 1483
def Jm:Obj:=qc tM 2341 tM 2342 aa 2343 918 3 0 0 3 1485 true 181 1486 (vr 1487) (vr 1488) (vr 1489) 2349 918 aa 2350
def GE:Obj:=qf Ob tM tM vn bf 2035 1490
def IB:Obj:=qc tC 2352 tC 2353 aa 2354 924 3 0 0 3 1492 true 181 1493 (vr 1494) (vr 1495) (vr 1496) 2358 924 aa 2359
def HC:Obj:=qf N2 tC tC vn bf 2035 1497
def Kl:Obj:=qc rq 2361 rq 2362 aa 2363 926 3 0 0 3 1499 true 181 1500 (vr 1501) (vr 1502) (vr 1503) 2369 926 aa 2370
def Jy:Obj:=qf Ni rq rq vn bf 2035 1504
def I4:Obj:=qc tW 2372 tW 2373 aa 2374 931 3 0 0 3 1506 true 181 1507 (vr 1508) (vr 1509) (vr 1510) 2378 931 aa 2379
def Ha:Obj:=qf Pb tW tW vn bf 2035 1511
def Kv:Obj:=qc rQ 2381 rQ 2382 aa 2383 934 3 0 0 3 1513 true 181 1514 (vr 1515) (vr 1516) (vr 1517) 2388 934 aa 2389
def Hc:Obj:=qf MJ rQ rQ vn bf 2035 1518
def TO (P:Params):=qd [(en P s0 165 (vs oQ 2977)),(en P s2 166 vn),(en P s3 167 vn),(en P s4 168 (vb Ek)),(en P s5 169 vn),(en P At 170 (vr 6)),(en P D7 171 (vr 4)),(en P BQ 173 (vs aa 172)),(en P BL 174 vn),(en P ni 193 (vr 21)),(en P oH 201 (vr 26)),(en P ny 207 (vr 31)),(en P mx 213 (vr 36)),(en P kR 246 (vr 53)),(en P lA 273 (vr 73)),(en P lO 300 (vr 92)),(en P lc 325 (vr 111)),(en P la 354 (vr 130)),(en P l5 383 (vr 149)),(en P nB 396 (vr 158)),(en P nU 406 (vr 165)),(en P m5 416 (vr 172)),(en P lD 447 (vr 189)),(en P AG 453 (vr 195)),(en P AL 459 (vr 198)),(en P Dx 465 (vr 201)),(en P kX 496 (vr 219)),(en P lH 574 (vr 282)),(en P lW 606 (vr 303)),(en P lS 635 (vr 324)),(en P kT 665 (vr 345)),(en P l8 695 (vr 366)),(en P lX 725 (vr 387)),(en P l6 757 (vr 408)),(en P lB 786 (vr 429)),(en P lh 815 (vr 450)),(en P on 821 (vr 459)),(en P oj 827 (vr 464)),(en P oE 837 (vr 472)),(en P gj 844 (vr 479)),(en P Ed 850 (.int 65536 849)),(en P lj 881 (vr 496)),(en P mJ 888 (vr 507)),(en P mD 895 (vr 514)),(en P nQ 902 (vr 521)),(en P nE 909 (vr 528)),(en P mu 919 (vr 535)),(en P mv 930 (vr 542)),(en P nC 940 (vr 549)),(en P mS 948 (vr 556)),(en P mC 960 (vr 563)),(en P oh 967 (vr 570)),(en P my 974 (vr 577)),(en P nK 981 (vr 584)),(en P n5 988 (vr 591)),(en P ng 997 (vr 598)),(en P l3 1030 (vr 615)),(en P nu 1038 (vr 626)),(en P m4 1046 (vr 633)),(en P oD 1055 (vr 640)),(en P AQ 1059 (vs eM 1058)),(en P FY 1072 (vr 641)),(en P Pf 1074 (vs xO 1073)),(en P NR 1076 (.int 5 1075)),(en P OL 1078 (.int 21 1077)),(en P Px 1080 (.int 6 1079)),(en P NQ 1082 (.int 64 1081)),(en P rN 1092 (vr 648)),(en P rM 1104 (vr 655)),(en P sk 1112 (vr 662)),(en P tv 1120 (vr 669)),(en P pJ 1214 (vr 721)),(en P rV 1228 (vr 732)),(en P t8 1236 (vr 739)),(en P sG 1249 (vr 746)),(en P sj 1258 (vr 753)),(en P tq 1268 (vr 760)),(en P rl 1279 (vr 767)),(en P sO 1291 (vr 775)),(en P sF 1301 (vr 782)),(en P sS 1307 (vr 787)),(en P te 1315 (vr 794)),(en P qq 1348 (vr 811)),(en P tf 1358 (vr 822)),(en P rt 1369 (vr 829)),(en P sf 1380 (vr 836)),(en P sD 1388 (vr 843)),(en P tB 1394 (vr 848)),(en P sY 1404 (vr 855)),(en P rj 1414 (vr 862)),(en P rK 1422 (vr 869)),(en P rI 1434 (vr 876)),(en P q0 1444 (vr 883)),(en P se 1460 (vr 891)),(en P RM 1464 (vs rh 1463)),(en P OO 1466 (vs wv 1465)),(en P Oz 1468 (vs xl 1467)),(en P Ng 1470 (vs pD 1469)),(en P M3 1472 (vs w7 1471)),(en P MP 1474 (vs nc 1473)),(en P Pa 1476 (vs rD 1475)),(en P MW 1478 (vs xk 1477)),(en P MV 1482 (vr 892)),(en P QL 1484 (vs Cw 1483)),(en P Mv 1489 (vr 895)),(en P NP 1498 (vr 900)),(en P qp 1533 (vr 917)),(en P q9 1543 (vr 928)),(en P t9 1550 (vr 935)),(en P sr 1557 (vr 942)),(en P tE 1565 (vr 949)),(en P sL 1572 (vr 956)),(en P tQ 1581 (vr 963)),(en P sw 1590 (vr 970)),(en P pA 1725 (vr 1058)),(en P PM 1729 (.int 0 1728)),(en P Py 1731 (.int 1 1730)),(en P Rc 1733 (.int 2 1732)),(en P oO 1768 (vr 1079)),(en P ph 1885 (vr 1164)),(en P rL 1896 (vr 1175)),(en P Nz 1900 (.int 0 1899)),(en P Ps 1902 (.int 1 1901)),(en P Pp 1904 (.int 2 1903)),(en P r8 1912 (vr 1182)),(en P rz 1921 (vr 1189)),(en P sB 1928 (vr 1196)),(en P pa 2021 (vr 1255)),(en P mB 2034 (vr 1267)),(en P N6 2038 (.int 0 2037)),(en P RN 2040 (.int 1 2039)),(en P Nm 2042 (.int 10 2041)),(en P PA 2044 (.int 10 2043)),(en P oV 2090 (vr 1298)),(en P pT 2129 (vr 1326)),(en P qi 2232 (vr 1410)),(en P r0 2241 (vr 1421)),(en P rC 2254 (vr 1428)),(en P sV 2267 (vr 1435)),(en P sN 2279 (vr 1442)),(en P sd 2291 (vr 1449)),(en P rT 2301 (vr 1456)),(en P sv 2310 (vr 1463)),(en P sP 2320 (vr 1470)),(en P sQ 2332 (vr 1477)),(en P tw 2340 (vr 1484)),(en P tM 2351 (vr 1491)),(en P tC 2360 (vr 1498)),(en P rq 2371 (vr 1505)),(en P tW 2380 (vr 1512)),(en P rQ 2390 (vr 1519)),(en P sh 2830 (vr 1886)),(en P tY 2937 (vr 1970)),(en P r7 2976 (vr 1999)),(en P uP 2984 (vr 2006)),(en P uD 2993 (vr 2013)),(en P uC 2999 (vr 2018)),(en P vK 3005 (vr 2023)),(en P vA 3011 (vr 2028)),(en P uU 3017 (vr 2033)),(en P uJ 3028 (vr 2040)),(en P uE 3034 (vr 2045)),(en P wI 3053 (vr 2052))] 163
def Jc:Obj:=qc ag 2405 Mw 2406 aa 2407 941 2 0 0 3 1527 true 181 1528 (vr 1529) (vr 1530) (vr 1531) 2410 941 aa 2411
def Ig:Obj:=qf wd ag Mw vn aI 2391 1532
def Mc:Obj:=qc BZ 2413 Oi 2414 aa 2415 944 2 0 0 3 1534 true 181 1535 (vr 1536) (vr 1537) (vr 1538) 2418 944 aa 2419
def IK:Obj:=qf D3 BZ Oi vn aI 2391 1539
def K1:Obj:=qc gj 2421 OK 2422 aa 2423 947 2 0 0 3 1541 true 181 1542 (vr 1543) (vr 1544) (vr 1545) 2426 947 aa 2427
def Lq:Obj:=qf Cb gj OK vn aI 2391 1546
def LC:Obj:=qc Dk 2429 OR 2430 aa 2431 950 2 0 0 3 1548 true 181 1549 (vr 1550) (vr 1551) (vr 1552) 2434 950 aa 2435
def Jg:Obj:=qf DH Dk OR vn aI 2391 1553
def Hi:Obj:=qc wu 2437 Pw 2438 aa 2439 953 1 0 0 3 1555 true 181 1556 (vr 1557) (vr 1558) (vr 1559) 2441 953 aa 2442
def GX:Obj:=qf CG wu Pw vn aI 2391 1560
def Mq:Obj:=qc C5 2444 MX 2445 aa 2446 956 2 0 0 3 1562 true 181 1563 (vr 1564) (vr 1565) (vr 1566) 2449 956 aa 2450
def G1:Obj:=qf Am C5 MX vn aI 2391 1567
def IM:Obj:=qc ya 2452 Rt 2453 aa 2454 959 1 0 0 3 1569 true 181 1570 (vr 1571) (vr 1572) (vr 1573) 2456 959 aa 2457
def Kt:Obj:=qf wL ya Rt vn aI 2391 1574
def Kw:Obj:=qc Ec 2459 M8 2460 aa 2461 962 1 0 0 3 1576 true 181 1577 (vr 1578) (vr 1579) (vr 1580) 2463 962 aa 2464
def LM:Obj:=qf BD Ec M8 vn aI 2391 1581
def Hw:Obj:=qc Dd 2466 Of 2467 aa 2468 965 2 0 0 3 1583 true 181 1584 (vr 1585) (vr 1586) (vr 1587) 2471 965 aa 2472
def IC:Obj:=qf B4 Dd Of vn aI 2391 1588
def IP:Obj:=qc wg 2474 RG 2475 aa 2476 968 1 0 0 3 1590 true 181 1591 (vr 1592) (vr 1593) (vr 1594) 2478 968 aa 2479
def HQ:Obj:=qf xc wg RG vn aI 2391 1595
def Jb:Obj:=qc B0 2481 RC 2482 aa 2483 971 2 0 0 3 1597 true 181 1598 (vr 1599) (vr 1600) (vr 1601) 2486 971 aa 2487
def HF:Obj:=qf sJ B0 RC vn aI 2391 1602
def Hm:Obj:=qc jd 2489 Ql 2490 aa 2491 974 3 0 0 3 1604 true 181 1605 (vr 1606) (vr 1607) (vr 1608) 2495 974 aa 2496
def Ke:Obj:=qf sC jd Ql vn aI 2391 1609
def GP:Obj:=qc BE 2498 Pu 2499 aa 2500 977 2 0 0 3 1611 true 181 1612 (vr 1613) (vr 1614) (vr 1615) 2503 977 aa 2504
def Lp:Obj:=qf y5 BE Pu vn aI 2391 1616
def G8:Obj:=qc vY 2506 Ow 2507 aa 2508 980 2 0 0 3 1618 true 181 1619 (vr 1620) (vr 1621) (vr 1622) 2511 980 aa 2512
def Jn:Obj:=qf yf vY Ow vn aI 2391 1623
def Ku:Obj:=qc xf 2514 OU 2515 aa 2516 983 2 0 0 3 1625 true 181 1626 (vr 1627) (vr 1628) (vr 1629) 2519 983 aa 2520
def Ik:Obj:=qf yw xf OU vn aI 2391 1630
def JN:Obj:=qc Dw 2522 Qz 2523 aa 2524 986 3 0 0 3 1632 true 181 1633 (vr 1634) (vr 1635) (vr 1636) 2528 986 aa 2529
def Ls:Obj:=qf yq Dw Qz vn aI 2391 1637
def LD:Obj:=qc BF 2531 Op 2532 aa 2533 989 3 0 0 3 1639 true 181 1640 (vr 1641) (vr 1642) (vr 1643) 2537 989 aa 2538
def JL:Obj:=qf yB BF Op vn aI 2391 1644
def Jk:Obj:=qc eS 2540 Os 2541 aa 2542 992 2 0 0 3 1646 true 181 1647 (vr 1648) (vr 1649) (vr 1650) 2545 992 aa 2546
def Ic:Obj:=qf yG eS Os vn aI 2391 1651
def HW:Obj:=qc Cq 2548 NI 2549 aa 2550 995 2 0 0 3 1653 true 181 1654 (vr 1655) (vr 1656) (vr 1657) 2553 995 aa 2554
def IE:Obj:=qf yA Cq NI vn aI 2391 1658
def Ie:Obj:=qc CH 2556 NL 2557 aa 2558 998 2 0 0 3 1660 true 181 1661 (vr 1662) (vr 1663) (vr 1664) 2561 998 aa 2562
def Lb:Obj:=qf yo CH NL vn aI 2391 1665
def KB:Obj:=qc za 2564 PP 2565 aa 2566 1001 2 0 0 3 1667 true 181 1668 (vr 1669) (vr 1670) (vr 1671) 2569 1001 aa 2570
def Jj:Obj:=qf tz za PP vn aI 2391 1672
def Jt:Obj:=qc AD 2572 QX 2573 aa 2574 1004 2 0 0 3 1674 true 181 1675 (vr 1676) (vr 1677) (vr 1678) 2577 1004 aa 2578
def Md:Obj:=qf sX AD QX vn aI 2391 1679
def KM:Obj:=qc Dj 2580 MB 2581 aa 2582 1007 2 0 0 3 1681 true 181 1682 (vr 1683) (vr 1684) (vr 1685) 2585 1007 aa 2586
def Mn:Obj:=qf rF Dj MB vn aI 2391 1686
def GZ:Obj:=qc kb 2588 Mu 2589 aa 2590 1010 2 0 0 3 1688 true 181 1689 (vr 1690) (vr 1691) (vr 1692) 2593 1010 aa 2594
def Lw:Obj:=qf t5 kb Mu vn aI 2391 1693
def HG:Obj:=qc Eu 2596 MZ 2597 aa 2598 1013 2 0 0 3 1695 true 181 1696 (vr 1697) (vr 1698) (vr 1699) 2601 1013 aa 2602
def HP:Obj:=qf so Eu MZ vn aI 2391 1700
def Kp:Obj:=qc Eo 2604 Pi 2605 aa 2606 1016 2 0 0 3 1702 true 181 1703 (vr 1704) (vr 1705) (vr 1706) 2609 1016 aa 2610
def K4:Obj:=qf sZ Eo Pi vn aI 2391 1707
def GY:Obj:=qc Ea 2612 NT 2613 aa 2614 1019 3 0 0 3 1709 true 181 1710 (vr 1711) (vr 1712) (vr 1713) 2618 1019 aa 2619
def Kz:Obj:=qf tm Ea NT vn aI 2391 1714
def Lx:Obj:=qc CZ 2621 Qu 2622 aa 2623 1022 4 0 0 3 1716 true 181 1717 (vr 1718) (vr 1719) (vr 1720) 2628 1022 aa 2629
def GK:Obj:=qf yk CZ Qu vn aI 2391 1721
def Kq:Obj:=qc uB 2631 MU 2632 aa 2633 1025 2 0 0 3 1723 true 181 1724 (vr 1725) (vr 1726) (vr 1727) 2636 1025 aa 2637
def Hq:Obj:=qf rA uB MU vn aI 2391 1728
def GI:Obj:=qc DS 2639 Oh 2640 aa 2641 1028 2 0 0 3 1730 true 181 1731 (vr 1732) (vr 1733) (vr 1734) 2644 1028 aa 2645
def Hp:Obj:=qf yn DS Oh vn aI 2391 1735
def LZ:Obj:=qc Cj 2647 Qp 2648 aa 2649 1031 2 0 0 3 1737 true 181 1738 (vr 1739) (vr 1740) (vr 1741) 2652 1031 aa 2653
def LV:Obj:=qf yV Cj Qp vn aI 2391 1742
def Jd:Obj:=qc An 2655 Np 2656 aa 2657 1034 3 0 0 3 1744 true 181 1745 (vr 1746) (vr 1747) (vr 1748) 2661 1034 aa 2662
def Kx:Obj:=qf yd An Np vn aI 2391 1749
def Gu:Obj:=qc Bt 2664 QY 2665 aa 2666 1037 4 0 0 3 1751 true 181 1752 (vr 1753) (vr 1754) (vr 1755) 2671 1037 aa 2672
def Lr:Obj:=qf y1 Bt QY vn aI 2391 1756
def Mo:Obj:=qc bS 2674 Mz 2675 aa 2676 1040 2 0 0 3 1758 true 181 1759 (vr 1760) (vr 1761) (vr 1762) 2679 1040 aa 2680
def I8:Obj:=qf yO bS Mz vn aI 2391 1763
def J9:Obj:=qc BP 2682 ML 2683 aa 2684 1043 2 0 0 3 1765 true 181 1766 (vr 1767) (vr 1768) (vr 1769) 2687 1043 aa 2688
def JC:Obj:=qf yu BP ML vn aI 2391 1770
def Jl:Obj:=qc AK 2690 QK 2691 aa 2692 1046 2 0 0 3 1772 true 181 1773 (vr 1774) (vr 1775) (vr 1776) 2695 1046 aa 2696
def Gq:Obj:=qf yv AK QK vn aI 2391 1777
def GQ:Obj:=qc xd 2698 Nd 2699 aa 2700 1049 2 0 0 3 1779 true 181 1780 (vr 1781) (vr 1782) (vr 1783) 2703 1049 aa 2704
def KV:Obj:=qf yX xd Nd vn aI 2391 1784
def HT:Obj:=qc Ct 2706 NV 2707 aa 2708 1052 2 0 0 3 1786 true 181 1787 (vr 1788) (vr 1789) (vr 1790) 2711 1052 aa 2712
def KI:Obj:=qf y8 Ct NV vn aI 2391 1791
def JJ:Obj:=qc D1 2714 Nu 2715 aa 2716 1055 3 0 0 3 1793 true 181 1794 (vr 1795) (vr 1796) (vr 1797) 2720 1055 aa 2721
def JQ:Obj:=qf yi D1 Nu vn aI 2391 1798
def IS:Obj:=qc vd 2723 MM 2724 aa 2725 1058 3 0 0 3 1800 true 181 1801 (vr 1802) (vr 1803) (vr 1804) 2729 1058 aa 2730
def IT:Obj:=qf yM vd MM vn aI 2391 1805
def GL:Obj:=qc Dm 2732 PD 2733 aa 2734 1061 2 0 0 3 1807 true 181 1808 (vr 1809) (vr 1810) (vr 1811) 2737 1061 aa 2738
def Kg:Obj:=qf yW Dm PD vn aI 2391 1812
def Ml:Obj:=qc B5 2740 Nb 2741 aa 2742 1064 2 0 0 3 1814 true 181 1815 (vr 1816) (vr 1817) (vr 1818) 2745 1064 aa 2746
def HO:Obj:=qf yE B5 Nb vn aI 2391 1819
def JK:Obj:=qc CQ 2748 M0 2749 aa 2750 1067 2 0 0 3 1821 true 181 1822 (vr 1823) (vr 1824) (vr 1825) 2753 1067 aa 2754
def Mf:Obj:=qf y6 CQ M0 vn aI 2391 1826
def HI:Obj:=qc DG 2756 QM 2757 aa 2758 1070 3 0 0 3 1828 true 181 1829 (vr 1830) (vr 1831) (vr 1832) 2762 1070 aa 2763
def Io:Obj:=qf ym DG QM vn aI 2391 1833
def Ht:Obj:=qc gQ 2765 PI 2766 aa 2767 1073 2 0 0 3 1835 true 181 1836 (vr 1837) (vr 1838) (vr 1839) 2770 1073 aa 2771
def Jx:Obj:=qf re gQ PI vn aI 2391 1840
def IY:Obj:=qc DO 2773 NX 2774 aa 2775 1076 2 0 0 3 1842 true 181 1843 (vr 1844) (vr 1845) (vr 1846) 2778 1076 aa 2779
def IF:Obj:=qf tN DO NX vn aI 2391 1847
def Ll:Obj:=qc Du 2781 QQ 2782 aa 2783 1079 2 0 0 3 1849 true 181 1850 (vr 1851) (vr 1852) (vr 1853) 2786 1079 aa 2787
def Ji:Obj:=qf tD Du QQ vn aI 2391 1854
def Gy:Obj:=qc C8 2789 QO 2790 aa 2791 1082 2 0 0 3 1856 true 181 1857 (vr 1858) (vr 1859) (vr 1860) 2794 1082 aa 2795
def K0:Obj:=qf yH C8 QO vn aI 2391 1861
def Jr:Obj:=qc BA 2797 Pe 2798 aa 2799 1085 3 0 0 3 1863 true 181 1864 (vr 1865) (vr 1866) (vr 1867) 2803 1085 aa 2804
def Jo:Obj:=qf yt BA Pe vn aI 2391 1868
def JZ:Obj:=qc ck 2806 My 2807 aa 2808 1088 2 0 0 3 1870 true 181 1871 (vr 1872) (vr 1873) (vr 1874) 2811 1088 aa 2812
def Ib:Obj:=qf rZ ck My vn aI 2391 1875
def Ih:Obj:=qc CB 2814 O3 2815 aa 2816 1091 2 0 0 3 1877 true 181 1878 (vr 1879) (vr 1880) (vr 1881) 2819 1091 aa 2820
def Lo:Obj:=qf rX CB O3 vn aI 2391 1882
def G6 (P:Params):=qd [(en P aE 2400 (vs aI 2391)),(en P aC 2404 (.int 939 2403)),(en P ag 2412 (vr 1533)),(en P BZ 2420 (vr 1540)),(en P gj 2428 (vr 1547)),(en P Dk 2436 (vr 1554)),(en P wu 2443 (vr 1561)),(en P C5 2451 (vr 1568)),(en P ya 2458 (vr 1575)),(en P Ec 2465 (vr 1582)),(en P Dd 2473 (vr 1589)),(en P wg 2480 (vr 1596)),(en P B0 2488 (vr 1603)),(en P jd 2497 (vr 1610)),(en P BE 2505 (vr 1617)),(en P vY 2513 (vr 1624)),(en P xf 2521 (vr 1631)),(en P Dw 2530 (vr 1638)),(en P BF 2539 (vr 1645)),(en P eS 2547 (vr 1652)),(en P Cq 2555 (vr 1659)),(en P CH 2563 (vr 1666)),(en P za 2571 (vr 1673)),(en P AD 2579 (vr 1680)),(en P Dj 2587 (vr 1687)),(en P kb 2595 (vr 1694)),(en P Eu 2603 (vr 1701)),(en P Eo 2611 (vr 1708)),(en P Ea 2620 (vr 1715)),(en P CZ 2630 (vr 1722)),(en P uB 2638 (vr 1729)),(en P DS 2646 (vr 1736)),(en P Cj 2654 (vr 1743)),(en P An 2663 (vr 1750)),(en P Bt 2673 (vr 1757)),(en P bS 2681 (vr 1764)),(en P BP 2689 (vr 1771)),(en P AK 2697 (vr 1778)),(en P xd 2705 (vr 1785)),(en P Ct 2713 (vr 1792)),(en P D1 2722 (vr 1799)),(en P vd 2731 (vr 1806)),(en P Dm 2739 (vr 1813)),(en P B5 2747 (vr 1820)),(en P CQ 2755 (vr 1827)),(en P DG 2764 (vr 1834)),(en P gQ 2772 (vr 1841)),(en P DO 2780 (vr 1848)),(en P Du 2788 (vr 1855)),(en P C8 2796 (vr 1862)),(en P BA 2805 (vr 1869)),(en P ck 2813 (vr 1876)),(en P CB 2821 (vr 1883)),(en P aD 2823 (vr 1884)),(en P aQ 2825 (vr 1887)),(en P aM 2827 (vr 1888)),(en P s2 2828 vn)] 4
def IH:Obj:=⟨(vt c72),none,(.cls ⟨sh,[(vt c63)],[(vr 1886),(vt c63)],1885,sh,true,[],[],false,none,false⟩),⟨[none,none,(some (vs sh 2393)),(some (vs sh 2401)),(some (vb bY)),(some (.bool true))]⟩⟩
def IL:Obj:=qc ag 2845 O4 2846 aa 2847 1096 1 0 0 3 1898 true 181 1899 (vr 1900) (vr 1901) (vr 1902) 2849 1096 aa 2850
def IN:Obj:=qf wB ag O4 vn jM 2831 1903
def IZ:Obj:=qc oX 2852 Qg 2853 aa 2854 1103 1 0 0 3 1905 true 181 1906 (vr 1907) (vr 1908) (vr 1909) 2856 1103 aa 2857
def KP:Obj:=qf AH oX Qg vn jM 2831 1910
def JR:Obj:=qc eS 2859 RE 2860 aa 2861 1107 2 0 0 3 1912 true 181 1913 (vr 1914) (vr 1915) (vr 1916) 2864 1107 aa 2865
def Gz:Obj:=qf wm eS RE vn jM 2831 1917
def IV:Obj:=qc Ce 2867 ND 2868 aa 2869 1110 2 0 0 3 1919 true 181 1920 (vr 1921) (vr 1922) (vr 1923) 2872 1110 aa 2873
def Ju:Obj:=qf B3 Ce ND vn jM 2831 1924
def HN:Obj:=qc Ax 2875 Ri 2876 aa 2877 1113 2 0 0 3 1926 true 181 1927 (vr 1928) (vr 1929) (vr 1930) 2880 1113 aa 2881
def Kr:Obj:=qf C7 Ax Ri vn jM 2831 1931
def Ky:Obj:=qc DA 2883 P9 2884 aa 2885 1116 3 0 0 3 1933 true 181 1934 (vr 1935) (vr 1936) (vr 1937) 2889 1116 aa 2890
def I1:Obj:=qf BM DA P9 vn jM 2831 1938
def Jw:Obj:=qc B8 2892 Rd 2893 aa 2894 1119 2 0 0 3 1940 true 181 1941 (vr 1942) (vr 1943) (vr 1944) 2897 1119 aa 2898
def HV:Obj:=qf Cs B8 Rd vn jM 2831 1945
def K8:Obj:=qc Ej 2900 NB 2901 aa 2902 1122 2 0 0 3 1947 true 181 1948 (vr 1949) (vr 1950) (vr 1951) 2905 1122 aa 2906
def Kd:Obj:=qf Bw Ej NB vn jM 2831 1952
def He:Obj:=qc CV 2908 Ol 2909 aa 2910 1125 2 0 0 3 1954 true 181 1955 (vr 1956) (vr 1957) (vr 1958) 2913 1125 aa 2914
def JB:Obj:=qf DX CV Ol vn jM 2831 1959
def H8:Obj:=qc A8 2916 Qj 2917 aa 2918 1128 3 0 0 3 1961 true 181 1962 (vr 1963) (vr 1964) (vr 1965) 2922 1128 aa 2923
def Lg:Obj:=qf Bh A8 Qj vn jM 2831 1966
def Ld (P:Params):=qd [(en P aE 2840 (vs jM 2831)),(en P aC 2844 (.int 1094 2843)),(en P ag 2851 (vr 1904)),(en P oX 2858 (vr 1911)),(en P eS 2866 (vr 1918)),(en P Ce 2874 (vr 1925)),(en P Ax 2882 (vr 1932)),(en P DA 2891 (vr 1939)),(en P B8 2899 (vr 1946)),(en P Ej 2907 (vr 1953)),(en P CV 2915 (vr 1960)),(en P A8 2924 (vr 1967)),(en P aD 2930 (vr 1968)),(en P aQ 2932 (vr 1971)),(en P aM 2934 (vr 1972)),(en P s2 2935 vn)] 4
def LA:Obj:=⟨(vt c72),none,(.cls ⟨tY,[(vt c63)],[(vr 1970),(vt c63)],1969,tY,true,[],[(vr 1999)],false,none,false⟩),⟨[none,none,(some (vs tY 2833)),(some (vs tY 2841)),(some (vb bY)),(some (.bool true))]⟩⟩
def Kk:Obj:=qs [(.int 100000 2952)]
def K6:Obj:=qc ag 2953 Oj 2954 aa 2955 1133 3 0 0 3 1983 true 181 1984 (vr 1985) (vr 1986) (vr 1987) 2959 1133 aa 2960
def HE:Obj:=qf wP ag Oj (vr 1982) Ee 2938 1988
def Ia:Obj:=qc Dq 2962 Pk 2963 aa 2964 1140 1 0 0 3 1990 true 181 1991 (vr 1992) (vr 1993) (vr 1994) 2966 1140 aa 2967
def GB:Obj:=qf A6 Dq Pk vn Ee 2938 1995
def JF (P:Params):=qd [(en P aE 2947 (vs Ee 2938)),(en P aC 2951 (.int 1131 2950)),(en P ag 2961 (vr 1989)),(en P Dq 2968 (vr 1996)),(en P aD 2973 (vr 1997)),(en P s2 2974 vn)] 2
def JI:Obj:=⟨(vt c72),none,(.cls ⟨r7,[(vr 1970)],[(vr 1999),(vr 1970),(vt c63)],1998,r7,true,[],[],false,none,false⟩),⟨[(some (vr 1975)),none,(some (vs r7 2940)),(some (vs r7 2948)),(some (vb bY)),(some (.bool true))]⟩⟩
def Gp:Obj:=qc uP 2979 uP 2980 aa 2981 1143 1 0 0 3 2002 true 181 2003 vn vn (vr 2004) 2982 1143 aa 2983
def Js:Obj:=qf Qq uP uP vn oQ 2977 2005
def I2:Obj:=qc uD 2985 uD 2986 aa 2987 1145 2 0 0 3 2007 true 181 2008 (vr 2009) (vr 2010) (vr 2011) 2991 1145 aa 2992
def GV:Obj:=qf OH uD uD vn oQ 2977 2012
def Iw:Obj:=qc uC 2994 uC 2995 aa 2996 1151 1 0 0 3 2014 true 181 2015 vn vn (vr 2016) 2997 1151 aa 2998
def JE:Obj:=qf O8 uC uC vn oQ 2977 2017
def IX:Obj:=qc vK 3000 vK 3001 aa 3002 1162 2 0 0 3 2019 true 181 2020 vn vn (vr 2021) 3003 1162 aa 3004
def JW:Obj:=qf Qn vK vK vn oQ 2977 2022
def Mk:Obj:=qc vA 3006 vA 3007 aa 3008 1171 3 0 0 3 2024 true 181 2025 vn vn (vr 2026) 3009 1171 aa 3010
def Hl:Obj:=qf Nk vA vA vn oQ 2977 2027
def Gl:Obj:=qc uU 3012 uU 3013 aa 3014 1188 3 0 0 3 2029 true 181 2030 vn vn (vr 2031) 3015 1188 aa 3016
def JY:Obj:=qf Q1 uU uU vn oQ 2977 2032
def JX:Obj:=qc uJ 3018 uJ 3019 aa 3020 1207 4 0 0 3 2034 true 181 2035 (vr 2036) (vr 2037) (vr 2038) 3026 1207 aa 3027
def Km:Obj:=qf NW uJ uJ vn oQ 2977 2039
def JH:Obj:=qc uE 3029 uE 3030 aa 3031 1214 4 0 0 3 2041 true 181 2042 vn vn (vr 2043) 3032 1214 aa 3033
def Kf:Obj:=qf Ra uE uE vn oQ 2977 2044
def KJ:Obj:=qc wI 3035 wI 3036 aa 3037 1217 1 0 0 3 2046 true 181 2047 (vr 2048) (vr 2049) (vr 2050) 3051 1217 aa 3052
def Bp:Obj:=qf z1 wI wI vn oQ 2977 2051
def T6 (P:Params):BT:=(nd (qd [(en P s0 1 (vs s1 160)),(en P s2 2 (vb c1)),(en P s3 3 (vb c2)),(en P s4 4 (vb c3)),(en P s5 5 (vb c4)),(en P s6 6 (vb c5)),(en P s7 7 (vb c6)),(en P s8 8 (vb c7)),(en P s9 9 (vb c8)),(en P s10 10 (vb c9)),(en P s11 11 (vb c10)),(en P s12 12 (vb c11)),(en P (sx [98,114,101,97,107,112,111,105,110,116]) 13 (vb c12)),(en P (sx [99,97,108,108,97,98,108,101]) 14 (vb c13)),(en P (sx [99,104,114]) 15 (vb c14)),(en P (sx [99,111,109,112,105,108,101]) 16 (vb c15)),(en P (sx [100,101,108,97,116,116,114]) 17 (vb c16)),(en P (sx [100,105,114]) 18 (vb c17)),(en P (sx [100,105,118,109,111,100]) 19 (vb c18)),(en P (sx [101,118,97,108]) 20 (vb c19)),(en P (sx [101,120,101,99]) 21 (vb c20)),(en P (sx [102,111,114,109,97,116]) 22 (vb c21)),(en P (sx [103,101,116,97,116,116,114]) 23 (vb c22)),(en P (sx [103,108,111,98,97,108,115]) 24 (vb c23)),(en P (sx [104,97,115,97,116,116,114]) 25 (vb c24)),(en P (sx [104,97,115,104]) 26 (vb c25)),(en P (sx [104,101,120]) 27 (vb c26)),(en P (sx [105,100]) 28 (vb c27)),(en P (sx [105,110,112,117,116]) 29 (vb c28)),(en P (sx [105,115,105,110,115,116,97,110,99,101]) 30 (vb c29)),(en P (sx [105,115,115,117,98,99,108,97,115,115]) 31 (vb c30)),(en P (sx [105,116,101,114]) 32 (vb c31)),(en P (sx [97,105,116,101,114]) 33 (vb c32)),(en P (sx [108,101,110]) 34 (vb c33)),(en P (sx [108,111,99,97,108,115]) 35 (vb c34)),(en P (sx [109,97,120]) 36 (vb c35)),(en P (sx [109,105,110]) 37 (vb c36)),(en P (sx [110,101,120,116]) 38 (vb c37)),(en P (sx [97,110,101,120,116]) 39 (vb c38)),(en P (sx [111,99,116]) 40 (vb c39)),(en P (sx [111,114,100]) 41 (vb c40)),(en P (sx [112,111,119]) 42 (vb c41)),(en P (sx [112,114,105,110,116]) 43 (vb c42)),(en P (sx [114,101,112,114]) 44 (vb c43)),(en P (sx [114,111,117,110,100]) 45 (vb c44)),(en P (sx [115,101,116,97,116,116,114]) 46 (vb c45)),(en P (sx [115,111,114,116,101,100]) 47 (vb c46)),(en P (sx [115,117,109]) 48 (vb c47)),(en P (sx [118,97,114,115]) 49 (vb c48)),(en P (sx [78,111,110,101]) 50 vn),(en P (sx [69,108,108,105,112,115,105,115]) 51 .ellipsis),(en P (sx [78,111,116,73,109,112,108,101,109,101,110,116,101,100]) 52 .notImplemented),(en P (sx [70,97,108,115,101]) 53 (.bool false)),(en P (sx [84,114,117,101]) 54 (.bool true)),(en P (sx [98,111,111,108]) 55 (vt c49)),(en P (sx [109,101,109,111,114,121,118,105,101,119]) 56 (vt c50)),(en P (sx [98,121,116,101,97,114,114,97,121]) 57 (vt c51)),(en P (sx [98,121,116,101,115]) 58 (vt c52)),(en P (sx [99,108,97,115,115,109,101,116,104,111,100]) 59 (vt c53)),(en P (sx [99,111,109,112,108,101,120]) 60 (vt c54)),(en P (sx [100,105,99,116]) 61 (vt c0)),(en P (sx [101,110,117,109,101,114,97,116,101]) 62 (vt c55)),(en P (sx [102,105,108,116,101,114]) 63 (vt c56)),(en P (sx [102,108,111,97,116]) 64 (vt c57)),(en P (sx [102,114,111,122,101,110,115,101,116]) 65 (vt c58)),(en P (sx [112,114,111,112,101,114,116,121]) 66 (vt c59)),(en P (sx [105,110,116]) 67 (vt c60)),(en P (sx [108,105,115,116]) 68 (vt c61)),(en P (sx [109,97,112]) 69 (vt c62)),(en P (sx [111,98,106,101,99,116]) 70 (vt c63)),(en P (sx [114,97,110,103,101]) 71 (vt c64)),(en P (sx [114,101,118,101,114,115,101,100]) 72 (vt c65)),(en P (sx [115,101,116]) 73 (vt c66)),(en P (sx [115,108,105,99,101]) 74 (vt c67)),(en P (sx [115,116,97,116,105,99,109,101,116,104,111,100]) 75 (vt c68)),(en P (sx [115,116,114]) 76 (vt c69)),(en P (sx [115,117,112,101,114]) 77 (vt c70)),(en P (sx [116,117,112,108,101]) 78 (vt c71)),(en P (sx [116,121,112,101]) 79 (vt c72)),(en P (sx [122,105,112]) 80 (vt c73)),(en P (sx [95,95,100,101,98,117,103,95,95]) 81 (.bool true)),(en P (sx [66,97,115,101,69,120,99,101,112,116,105,111,110]) 82 (vt c74)),(en P (sx [66,97,115,101,69,120,99,101,112,116,105,111,110,71,114,111,117,112]) 83 (vt c75)),(en P (sx [69,120,99,101,112,116,105,111,110]) 84 (vt c76)),(en P (sx [71,101,110,101,114,97,116,111,114,69,120,105,116]) 85 (vt c77)),(en P (sx [75,101,121,98,111,97,114,100,73,110,116,101,114,114,117,112,116]) 86 (vt c78)),(en P (sx [83,121,115,116,101,109,69,120,105,116]) 87 (vt c79)),(en P (sx [65,114,105,116,104,109,101,116,105,99,69,114,114,111,114]) 88 (vt c80)),(en P (sx [65,115,115,101,114,116,105,111,110,69,114,114,111,114]) 89 (vt c81)),(en P (sx [65,116,116,114,105,98,117,116,101,69,114,114,111,114]) 90 (vt c82)),(en P (sx [66,117,102,102,101,114,69,114,114,111,114]) 91 (vt c83)),(en P (sx [69,79,70,69,114,114,111,114]) 92 (vt c84)),(en P (sx [73,109,112,111,114,116,69,114,114,111,114]) 93 (vt c85)),(en P (sx [76,111,111,107,117,112,69,114,114,111,114]) 94 (vt c86)),(en P (sx [77,101,109,111,114,121,69,114,114,111,114]) 95 (vt c87)),(en P (sx [78,97,109,101,69,114,114,111,114]) 96 (vt c88)),(en P (sx [79,83,69,114,114,111,114]) 97 (vt c89)),(en P (sx [82,101,102,101,114,101,110,99,101,69,114,114,111,114]) 98 (vt c90)),(en P (sx [82,117,110,116,105,109,101,69,114,114,111,114]) 99 (vt c91)),(en P (sx [83,116,111,112,65,115,121,110,99,73,116,101,114,97,116,105,111,110]) 100 (vt c92)),(en P (sx [83,116,111,112,73,116,101,114,97,116,105,111,110]) 101 (vt c93)),(en P (sx [83,121,110,116,97,120,69,114,114,111,114]) 102 (vt c94)),(en P (sx [83,121,115,116,101,109,69,114,114,111,114]) 103 (vt c95)),(en P (sx [84,121,112,101,69,114,114,111,114]) 104 (vt c96)),(en P (sx [86,97,108,117,101,69,114,114,111,114]) 105 (vt c97)),(en P (sx [87,97,114,110,105,110,103]) 106 (vt c98)),(en P (sx [70,108,111,97,116,105,110,103,80,111,105,110,116,69,114,114,111,114]) 107 (vt c99)),(en P (sx [79,118,101,114,102,108,111,119,69,114,114,111,114]) 108 (vt Zm)),(en P (sx [90,101,114,111,68,105,118,105,115,105,111,110,69,114,114,111,114]) 109 (vt YV)),(en P (sx [66,121,116,101,115,87,97,114,110,105,110,103]) 110 (vt Zy)),(en P (sx [68,101,112,114,101,99,97,116,105,111,110,87,97,114,110,105,110,103]) 111 (vt Zf)),(en P (sx [69,110,99,111,100,105,110,103,87,97,114,110,105,110,103]) 112 (vt YR)),(en P (sx [70,117,116,117,114,101,87,97,114,110,105,110,103]) 113 (vt YF)),(en P (sx [73,109,112,111,114,116,87,97,114,110,105,110,103]) 114 (vt Ze)),(en P (sx [80,101,110,100,105,110,103,68,101,112,114,101,99,97,116,105,111,110,87,97,114,110,105,110,103]) 115 (vt Yd)),(en P (sx [82,101,115,111,117,114,99,101,87,97,114,110,105,110,103]) 116 (vt X4)),(en P (sx [82,117,110,116,105,109,101,87,97,114,110,105,110,103]) 117 (vt XV)),(en P (sx [83,121,110,116,97,120,87,97,114,110,105,110,103]) 118 (vt Yy)),(en P (sx [85,110,105,99,111,100,101,87,97,114,110,105,110,103]) 119 (vt Zq)),(en P (sx [85,115,101,114,87,97,114,110,105,110,103]) 120 (vt Zc)),(en P (sx [66,108,111,99,107,105,110,103,73,79,69,114,114,111,114]) 121 (vt Y9)),(en P (sx [67,104,105,108,100,80,114,111,99,101,115,115,69,114,114,111,114]) 122 (vt Zk)),(en P (sx [67,111,110,110,101,99,116,105,111,110,69,114,114,111,114]) 123 (vt ZA)),(en P (sx [70,105,108,101,69,120,105,115,116,115,69,114,114,111,114]) 124 (vt Yq)),(en P (sx [70,105,108,101,78,111,116,70,111,117,110,100,69,114,114,111,114]) 125 (vt X8)),(en P (sx [73,110,116,101,114,114,117,112,116,101,100,69,114,114,111,114]) 126 (vt XR)),(en P (sx [73,115,65,68,105,114,101,99,116,111,114,121,69,114,114,111,114]) 127 (vt YC)),(en P (sx [78,111,116,65,68,105,114,101,99,116,111,114,121,69,114,114,111,114]) 128 (vt Yk)),(en P (sx [80,101,114,109,105,115,115,105,111,110,69,114,114,111,114]) 129 (vt Y1)),(en P (sx [80,114,111,99,101,115,115,76,111,111,107,117,112,69,114,114,111,114]) 130 (vt Y7)),(en P (sx [84,105,109,101,111,117,116,69,114,114,111,114]) 131 (vt Yu)),(en P (sx [73,110,100,101,110,116,97,116,105,111,110,69,114,114,111,114]) 132 (vt YO)),(en P (sx [95,73,110,99,111,109,112,108,101,116,101,73,110,112,117,116,69,114,114,111,114]) 133 (vt Zl)),(en P (sx [73,110,100,101,120,69,114,114,111,114]) 134 (vt Zi)),(en P (sx [75,101,121,69,114,114,111,114]) 135 (vt Yg)),(en P (sx [77,111,100,117,108,101,78,111,116,70,111,117,110,100,69,114,114,111,114]) 136 (vt Yr)),(en P (sx [78,111,116,73,109,112,108,101,109,101,110,116,101,100,69,114,114,111,114]) 137 (vt Yx)),(en P (sx [80,121,116,104,111,110,70,105,110,97,108,105,122,97,116,105,111,110,69,114,114,111,114]) 138 (vt XQ)),(en P (sx [82,101,99,117,114,115,105,111,110,69,114,114,111,114]) 139 (vt XZ)),(en P (sx [85,110,98,111,117,110,100,76,111,99,97,108,69,114,114,111,114]) 140 (vt YJ)),(en P (sx [85,110,105,99,111,100,101,69,114,114,111,114]) 141 (vt Yt)),(en P (sx [66,114,111,107,101,110,80,105,112,101,69,114,114,111,114]) 142 (vt Zp)),(en P (sx [67,111,110,110,101,99,116,105,111,110,65,98,111,114,116,101,100,69,114,114,111,114]) 143 (vt Y2)),(en P (sx [67,111,110,110,101,99,116,105,111,110,82,101,102,117,115,101,100,69,114,114,111,114]) 144 (vt Yj)),(en P (sx [67,111,110,110,101,99,116,105,111,110,82,101,115,101,116,69,114,114,111,114]) 145 (vt Y6)),(en P (sx [84,97,98,69,114,114,111,114]) 146 (vt X5)),(en P (sx [85,110,105,99,111,100,101,68,101,99,111,100,101,69,114,114,111,114]) 147 (vt XX)),(en P (sx [85,110,105,99,111,100,101,69,110,99,111,100,101,69,114,114,111,114]) 148 (vt Y0)),(en P (sx [85,110,105,99,111,100,101,84,114,97,110,115,108,97,116,101,69,114,114,111,114]) 149 (vt YI)),(en P (sx [69,120,99,101,112,116,105,111,110,71,114,111,117,112]) 150 (vt YN)),(en P (sx [69,110,118,105,114,111,110,109,101,110,116,69,114,114,111,114]) 151 (vt c89)),(en P (sx [73,79,69,114,114,111,114]) 152 (vt c89)),(en P (sx [111,112,101,110]) 153 (vb Zt)),(en P (sx [113,117,105,116]) 154 (vb Yz)),(en P (sx [101,120,105,116]) 155 (vb YW)),(en P (sx [99,111,112,121,114,105,103,104,116]) 156 (vb YX)),(en P (sx [99,114,101,100,105,116,115]) 157 (vb Yo)),(en P (sx [108,105,99,101,110,115,101]) 158 (vb Y3)),(en P (sx [104,101,108,112]) 159 (vb XY))] 159) (nd (o1 P) (nd (TO P) (nd o7 (nd o7 (nd o31 (nd (⟨(vt bm),none,.plain,⟨[(some (vr 62)),(some (vr 3)),(some (vr 59)),none,(some (vs cA 214)),none,(some (vr 0))]⟩⟩) (nd Sq (nd o7 (nd o7 (nd (qs [(vs ah 1664),(vs jR 1665),(vs wA 1666),(vs Gf 1667),(vs dF 1668)]) (lf o8) nil) (lf o8)) (nd UZ (lf (qg vW ag PU)) (lf HT))) (nd Wt (nd Vf (lf o7) (lf o7)) (nd Rq (lf GR) (lf o7)))) (nd (qt aP [(vs aM 443),(vr 189),(vb bZ),vn]) (nd (qg Ao ag Pt) (nd (qg f48 my my) (lf o7) (lf (qs [(vs ah 2484),(vs bq 2485)]))) (nd o8 (lf Mb) (lf Ji))) (nd US (nd WE (lf (qg xV BV MY)) (lf (qg rA uB MU))) (nd (qs [(vs dF 1576),(vs Om 1577),(vs nA 1578)]) (lf o7) (lf o7))))) (nd o57 (nd o7 (nd o7 (nd o7 (lf K7) (lf Mq)) (nd (qv [(vi 348),(vi 4),(vr 807)]) (lf o8) (lf (qs [(vs ah 2751),(vs vd 2752)])))) (nd (qd [(en P aE 765 (vs aK 417)),(en P bz 767 (vs lB 766)),(en P aC 769 (.int 132 768)),(en P ag 777 (vr 426)),(en P aD 779 (vr 427))] 5) (nd o38 (lf o7) (lf o7)) (nd Wg (lf o7) (lf (qg Bw Ej NB))))) (nd (qt bt [(vb bA),(vr 219)]) (nd o38 (nd o8 (lf GS) (lf Ik)) (nd o7 (lf (qs [(vs ah 2185),(vs dF 2186)])) (lf (qt aP [(vs aQ 2824),(vr 1886),(vb cq),(vb ci)])))) (nd Wk (nd (qs [(vs rS 1232),(vs bx 1233)]) (lf o8) (lf o8)) (nd Tl (lf (qg Ni rq rq)) (lf o8)))))) (nd o7 (nd o7 (nd o7 (nd VC (nd SZ (lf (qg xq Ck M5)) (lf o7)) (nd o7 (lf Lz) (lf o7))) (nd o7 (nd Xs (lf (qt c70 [(vr 1164),(vr 1164),(vr 1164)])) (lf Jt)) (nd o7 (lf o8) (lf (qs [(vs ah 2886),(vs Vc 2887),(vs eW 2888)]))))) (nd (qv [(vi 68),(vi 4),(vr 215)]) (nd (⟨(vt bm),none,.plain,⟨[(some (vr 334)),(some (vr 3)),(some (vr 331)),none,(some (vs aK 417)),none,(some (vr 0))]⟩⟩) (nd Ug (lf (qg wW bx PB)) (lf (qg y5 BE Pu))) (nd VE (lf o7) (lf o8))) (nd U9 (nd (qs [(vs iy 1201),(vs (sx [104,97,115,95,101,110,100,115]) 1202),(vs (sx [104,101,114,101]) 1203),(vs Uu 1204),(vs Vu 1205),(vs il 1206)]) (lf Hg) (lf LV)) (nd (qv [(vi 488),(vi 4),(vr 984),(vi 494),(vi 4),(vr 991),(vi 505),(vi 4),(vr 998),(vi 512),(vi 4),(vr 1005),(vi 529),(vi 4),(vr 1012),(vi 534),(vi 4),(vr 1019),(vi 542),(vi 4),(vr 1026),(vi 555),(vi 4),(vr 1033),(vi 561),(vi 4),(vr 1040),(vi 575),(vi 4),(vr 1047),(vi 588),(vi 4),(vr 1054)]) (lf (qs [(vs iG 2344),(vs dY 2345),(vs nL 2346),(vs gQ 2347),(vs rc 2348)])) (lf JI))))) (nd S4 (nd (qd [(en P aE 426 (vs aK 417)),(en P bz 428 (vs lD 427)),(en P aC 430 (.int 59 429)),(en P ag 438 (vr 186)),(en P aD 440 (vr 187))] 5) (nd Vy (nd (qs [(vs fo 952),(vs il 953),(vs iy 954),(vs Sw 955),(vs DB 956),(vs wa 957)]) (lf o8) (lf o7)) (nd (qt bt [(vb bA),(vr 811)]) (lf (qt aP [(vs aQ 2123),(vr 1326),(vb cq),(vb ci)])) (lf (qg re gQ PI)))) (nd (qt aP [(vs aM 782),(vr 429),(vb bZ),vn]) (nd o7 (lf (qd [(en P aE 1936 (vs g9 1897)),(en P bz 1938 (vs pa 1937)),(en P aC 1940 (.int 744 1939)),(en P ag 1952 (vr 1210)),(en P BV 1962 (vr 1217)),(en P qx 1970 (vr 1224)),(en P ck 1979 (vr 1231)),(en P jd 1988 (vr 1238)),(en P xg 1996 (vr 1245)),(en P pz 2005 (vr 1252)),(en P aD 2014 (vr 1253))] 11)) (lf (qs [(vs ah 2615),(vs kb 2616),(vs bx 2617)]))) (nd o7 (lf Lk) (lf Lg)))) (nd o8 (nd (qt aP [(vs aQ 689),(vr 366),(vb cq),(vb ci)]) (nd o7 (lf o8) (lf o8)) (nd (qs [(vs fo 1438),(vs il 1439),(vs iy 1440),(vs FA 1441)]) (lf (qg BG BY QI)) (lf IL))) (nd (Tn P) (nd (qg f73 sj sj) (lf (qs [(vs ck 2027),(vs fo 2028),(vs im 2029),(vs CD 2030),(vs sq 2031)])) (lf o7)) (nd o7 (lf Hc) (lf (qg Q1 uU uU)))))))) (nd o8 (nd (qd [(en P aE 223 (vs cA 214)),(en P bz 225 (vs kR 224)),(en P aC 227 (.int 12 226)),(en P ag 236 (vr 50)),(en P aD 239 (vr 51))] 5) (nd (qs [(vs bx 268),(vs Fw 269)]) (nd (qd [(en P aE 362 (vs cA 214)),(en P bz 364 (vs l5 363)),(en P aC 366 (.int 41 365)),(en P ag 376 (vr 146)),(en P aD 380 (vr 147))] 5) (nd (qg Hh A3 OE) (nd (qg f40 nQ nQ) (lf o7) (lf (qs [(vs ah 2424),(vs bq 2425)]))) (nd Vq (lf Kj) (lf JQ))) (nd (qt bt [(vb bA),(vr 387)]) (nd VZ (lf (qg wX Cm Og)) (lf (qg tz za PP))) (nd (qd [(en P aE 1506 (vs cj 1461)),(en P bz 1508 (vs qp 1507)),(en P aC 1510 (.int 448 1509)),(en P ag 1521 (vr 914)),(en P aD 1526 (vr 915))] 5) (lf o7) (lf o8)))) (nd (ob (vt bm) none (.dict ⟨[(en P ah 455 (vr 198)),(en P pW 456 (vs ya 454))]⟩ 2)) (nd (qt c70 [(vr 324),(vr 324),(vr 324)]) (nd W8 (lf o7) (lf o7)) (nd (qs [(vs eG 1384),(vs xt 1385)]) (lf Lv) (lf o7))) (nd o7 (nd Sl (lf KE) (lf GI)) (nd o7 (lf o8) (lf o8))))) (nd o8 (nd o8 (nd o8 (nd o8 (lf o7) (lf Kt)) (nd Un (lf (qs [(vs ah 2114),(vs su 2115)])) (lf o7))) (nd o7 (nd (qs [(vs ah 1136),(vs fo 1137),(vs rS 1138),(vs Cz 1139),(vs zw 1140),(vs (sx [105,115,95,112,111,119,101,114]) 1141)]) (lf o8) (lf o8)) (nd WY (lf (qg Qt sd sd)) (lf He)))) (nd o7 (nd (qs [(vs ah 681),(vs Av 682)]) (nd Sg (lf o7) (lf o7)) (nd o8 (lf o7) (lf (qv [(vi 1096),(vi 4),(vr 1903),(vi 1103),(vi 4),(vr 1910),(vi 1107),(vi 4),(vr 1917),(vi 1110),(vi 4),(vr 1924),(vi 1113),(vi 4),(vr 1931),(vi 1116),(vi 4),(vr 1938),(vi 1119),(vi 4),(vr 1945),(vi 1122),(vi 4),(vr 1952),(vi 1125),(vi 4),(vr 1959),(vi 1128),(vi 4),(vr 1966)])))) (nd o7 (nd o7 (lf Gm) (lf (qs [(vs ah 2685),(vs bq 2686)]))) (nd Xy (lf I4) (lf JW)))))) (nd (qt c70 [(vr 53),(vr 53),(vr 53)]) (nd (qg TL ag NH) (nd (qt bt [(vb bA),(vr 149)]) (nd Xd (nd Xe (lf KR) (lf (qg CG wu Pw))) (nd o7 (lf o7) (lf o8))) (nd (SN P) (nd o7 (lf ID) (lf Mn)) (nd (qt aP [(vs aM 1529),(vr 917),(vb bZ),vn]) (lf (qs [(vs iG 2258),(vs dY 2259),(vs dF 2260),(vs bx 2261),(vs bq 2262),(vs ER 2263),(vs gQ 2264)])) (lf o7)))) (nd WZ (nd (qs [(vs su 656),(vs zj 657)]) (nd o7 (lf K2) (lf G8)) (nd UK (lf o8) (lf (qs [(vs ah 2817),(vs ck 2818)])))) (nd SO (nd o8 (lf o7) (lf o7)) (nd (qg xy ag Nl) (lf o7) (lf o7))))) (nd (qc la 328 la 329 aa 330 34 0 0 0 0 117 false 181 118 vn vn vn 331 34 aa 332) (nd o7 (nd o7 (nd o7 (lf JD) (lf o8)) (nd o7 (lf (qv [(vi 853),(vi 4),(vr 1343),(vi 859),(vi 4),(vr 1350),(vi 862),(vi 4),(vr 1357),(vi 866),(vi 4),(vr 1364),(vi 869),(vi 4),(vr 1371),(vi 872),(vi 4),(vr 1378),(vi 875),(vi 4),(vr 1385),(vi 878),(vi 4),(vr 1392),(vi 881),(vi 4),(vr 1399),(vi 884),(vi 4),(vr 1406)])) (lf IY))) (nd (qc lh 789 lh 790 aa 791 136 0 0 0 0 437 false 181 438 vn vn vn 792 136 aa 793) (nd (qg KT AY N3) (lf o7) (lf o7)) (nd o8 (lf Je) (lf (qs [(vr 1970)]))))) (nd (qs [(vs ah 528),(vs (sx [104,105,110,116]) 529),(vs dd 530)]) (nd (qv [(vi 123),(vi 4),(vr 383)]) (nd (qg f55 m4 m4) (lf (qs [(vs ah 1849),(vs oP 1850),(vs FI 1851)])) (lf (qs [(vs ah 2551),(vs bq 2552)]))) (nd (qs [(vs fo 1449),(vs eW 1450),(vs im 1451),(vs dd 1452),(vs eG 1453),(vs U4 1454),(vs Bs 1455),(vs Wj 1456),(vs FA 1457)]) (lf JG) (lf KP))) (nd (qs [(vs bq 885)]) (nd VV (lf o7) (lf (qg yX xd Nd))) (nd o8 (lf o7) (lf JX)))))))) (nd o7 (nd (qg f0 ni ni) (nd o35 (nd o7 (nd (qt c70 [(vr 130),(vr 130),(vr 130)]) (nd o7 (nd o7 (nd Hu (lf KJ) nil) (lf Mc)) (nd (qs [(vs fo 1284),(vs bS 1285),(vs im 1286),(vs il 1287),(vs iy 1288)]) (lf o8) (lf (qs [(vs ah 2717),(vs xd 2718),(vs bq 2719)])))) (nd U0 (nd o8 (lf o7) (lf o7)) (nd MS (lf (qt aP [(vs aQ 2226),(vr 1410),(vb cq),(vb ci)])) (lf (qg B3 Ce ND))))) (nd FL (nd (TF P) (nd o8 (lf KN) (lf HF)) (nd Xb (lf (qs [(vs ah 2152),(vs bS 2153)])) (lf o7))) (nd (qt aP [(vs aQ 809),(vr 450),(vb cq),(vb ci)]) (nd (qs [(vs ah 1181),(vs (sx [109,117,108,116,105,112,108,101]) 1182),(vs pE 1183),(vs il 1184),(vs iy 1185)]) (lf o8) (lf o8)) (nd Vb (lf (qg Nv sQ sQ)) (lf (qg wP ag Oj)))))) (nd (qv [(vi 31),(vi 4),(vr 107)]) (nd (qg f14 nU nU) (nd (qv [(vi 103),(vi 4),(vr 299)]) (nd (qg f44 nC nC) (lf (qt aP [(vs aQ 1719),(vr 1058),(vb cq),(vb ci)])) (lf (qs [(vs ah 2455)]))) (nd o8 (lf Mj) (lf Mf))) (nd (⟨(vt bm),none,.plain,⟨[(some (vr 418)),(some (vr 3)),(some (vr 415)),none,(some (vs aK 417)),none,(some (vr 0))]⟩⟩) (nd (qc pJ 1123 pJ 1124 aa 1125 254 0 0 0 0 673 false 181 674 vn vn vn 1126 254 aa 1127) (lf (qg Rj rz rz)) (lf (qg so Eu MZ))) (nd (qs [(vs nA 1547)]) (lf o7) (lf o8)))) (nd o7 (nd (qc l8 668 l8 669 aa 670 116 0 0 0 0 353 false 181 354 vn vn vn 671 116 aa 672) (nd SU (lf o7) (lf o7)) (nd (qg f88 rK rK) (lf LW) (lf o7))) (nd o7 (nd Vw (lf IQ) (lf Mo)) (nd (qs [(vs ah 1626),(vs bx 1627)]) (lf o8) (lf o7)))))) (nd (qs [(vs WQ 237),(vs eG 238)]) (nd o7 (nd (qs [(vs ck 377),(vs dF 378),(vs bx 379)]) (nd (qs [(vs ah 561)]) (nd (qs [(vs Cz 913),(vs zw 914),(vs Na 915),(vs bx 916)]) (lf o8) (lf o7)) (nd UV (lf (qt aP [(vs aQ 2084),(vr 1298),(vb cq),(vb ci)])) (lf (qg yW Dm PD)))) (nd (qg Ki ag PE) (nd o7 (lf (qs [(vs ck 1889),(vs sq 1890),(vs Bs 1891),(vs dF 1892),(vs Om 1893)])) (lf (qs [(vs ah 2583),(vs za 2584)]))) (nd (qs [(vs wA 1522),(vs jR 1523),(vs bq 1524),(vs eG 1525)]) (lf Jz) (lf I1)))) (nd o8 (nd o7 (nd o7 (lf o8) (lf o8)) (nd (qs [(vs eG 1398),(vs Fm 1399),(vs dd 1400),(vs xt 1401)]) (lf (qg DW Em Rf)) (lf JZ))) (nd o8 (nd (qt aP [(vs aM 1210),(vr 721),(vb bZ),vn]) (lf o7) (lf o7)) (nd o7 (lf GE) (lf o8))))) (nd o38 (nd (⟨(vt bm),none,.plain,⟨[(some (vr 178)),(some (vr 3)),(some (vr 175)),none,(some (vs aK 417)),none,(some (vr 0))]⟩⟩) (nd (qt bt [(vb bA),(vr 303)]) (nd To (lf IA) (lf (qg B4 Dd Of))) (nd o7 (lf o7) (lf o8))) (nd o38 (nd o7 (lf (⟨(vt bm),none,.plain,⟨[(some (vr 1202)),(some (vr 3)),(some (vr 1199)),none,(some (vs g9 1897)),none,(some (vr 0))]⟩⟩)) (lf Kz)) (nd (qg Od tE tE) (lf (qs [(vs iG 2305),(vs dY 2306),(vs nL 2307)])) (lf (qt aP [(vs aQ 2931),(vr 1970),(vb cq),(vb ci)]))))) (nd TG (nd o7 (nd o7 (lf I6) (lf Jk)) (nd Wy (lf o8) (lf (qs [(vs ah 2855)])))) (nd (qt c70 [(vr 496),(vr 496),(vr 496)]) (nd o8 (lf CL) (lf o7)) (nd (qg xA dd RL) (lf o7) (lf o8))))))) (nd o7 (nd (⟨(vt bm),none,.plain,⟨[(some (vr 42)),(some (vr 3)),(some (vr 39)),none,(some (vs cA 214)),none,(some (vr 0))]⟩⟩) (nd (qt bt [(vb bA),(vr 73)]) (nd (⟨(vt bm),none,.plain,⟨[(some (vr 138)),(some (vr 3)),(some (vr 135)),none,(some (vs cA 214)),none,(some (vr 0))]⟩⟩) (nd o8 (nd o8 (lf o7) (lf Lq)) (nd o7 (lf (qs [(vs ah 2075)])) (lf o7))) (nd o7 (nd (qs [(vs bS 1096),(vs im 1097),(vs Fm 1098),(vs (sx [108,111,116]) 1099),(vs wa 1100),(vs xt 1101)]) (lf (Ir P)) (lf o8)) (nd (⟨(vt bm),none,.plain,⟨[(some (vr 906)),(some (vr 3)),(some (vr 903)),none,(some (vs cj 1461)),none,(some (vr 0))]⟩⟩) (lf (qg Ou r0 r0)) (lf HN)))) (nd o7 (nd (qd [(en P aE 643 (vs aK 417)),(en P bz 645 (vs kT 644)),(en P aC 647 (.int 111 646)),(en P ag 655 (vr 342)),(en P aD 658 (vr 343))] 5) (nd (qs [(vs rS 985)]) (lf o7) (lf o7)) (nd XA (lf o7) (lf (qg yt BA Pe)))) (nd VQ (nd o7 (lf (qs [(vs ah 1974),(vs DY 1975),(vs bx 1976)])) (lf (qs [(vs ah 2650),(vs uB 2651)]))) (nd o7 (lf Hk) (lf Ia))))) (nd Si (nd UM (nd UG (nd Xc (lf (qv [(vi 613),(vi 4),(vr 1075)])) (lf o7)) (nd VM (lf IW) (lf o7))) (nd (qs [(vs bS 778)]) (nd SJ (lf Jh) (lf Kp)) (nd o7 (lf o8) (lf (qs [(vs ah 2919),(vs (sx [111,112]) 2920),(vs (sx [118,97,108,117,101,115]) 2921)]))))) (nd (qg Da ag Oa) (nd W5 (nd (qt bt [(vb bA),(vr 615)]) (lf (qg xY Bg QF)) (lf (qg yB BF Op))) (nd Vx (lf o7) (lf o8))) (nd (qg KL ag Pv) (nd o7 (lf (qt bt [(vb bA),(vr 1255)])) (lf JC)) (nd o7 (lf (qs [(vs iG 2384),(vs dY 2385),(vs nL 2386),(vs rc 2387)])) (lf Mk)))))) (nd (qd [(en P aE 254 (vs cA 214)),(en P bz 256 (vs lA 255)),(en P aC 258 (.int 17 257)),(en P ag 267 (vr 70)),(en P aD 270 (vr 71))] 5) (nd (o91 P) (nd o7 (nd (qt aP [(vs aQ 568),(vr 282),(vb cq),(vb ci)]) (nd o7 (lf (qs [(vs ah 1706),(vs jR 1707),(vs Wa 1708),(vs o0 1709),(vs nA 1710)])) (lf o8)) (nd o7 (lf (qv [(vi 844),(vi 4),(vr 1315),(vi 849),(vi 4),(vr 1322)])) (lf Ml))) (nd (qt c70 [(vr 408),(vr 408),(vr 408)]) (nd (qg f68 tv tv) (lf o7) (lf o7)) (nd o8 (lf Iy) (lf o7)))) (nd UQ (nd (qt aP [(vs aM 661),(vr 345),(vb bZ),vn]) (nd (qv [(vi 210),(vi 4),(vr 611)]) (lf (qs [(vs ah 1812),(vs ck 1813),(vs dd 1814)])) (lf (qs [(vs ah 2517),(vs jd 2518)]))) (nd o7 (lf Jf) (lf Lo))) (nd (qs [(vs ck 841)]) (nd Ti (lf (qg wy xg On)) (lf (qg y1 Bt QY))) (nd o8 (lf o7) (lf (qg OH uD uD)))))) (nd (qs [(vs ah 341),(vs dF 342),(vs bx 343),(vs ck 344)]) (nd (qs [(vs pW 439)]) (nd o7 (nd o7 (lf (qt bt [(vb bA),(vr 1079)])) (lf IP)) (nd (qg f82 rt rt) (lf o8) (lf (qs [(vs ah 2784),(vs gQ 2785)])))) (nd (qs [(vs ah 802),(vs pW 803)]) (nd o8 (lf o7) (lf o7)) (nd T1 (lf o7) (lf (qv [(vi 1133),(vi 4),(vr 1988),(vi 1140),(vi 4),(vr 1995)]))))) (nd UY (nd o8 (nd o8 (lf KA) (lf IE)) (nd VO (lf (qs [(vs ah 2217)])) (lf o7))) (nd So (nd (qs [(vs fo 1272),(vs rS 1273),(vs bS 1274),(vs pE 1275),(vs xt 1276)]) (lf o7) (lf o8)) (nd GU (lf (qg wd ag Mw)) (lf (qg Ra uE uE)))))))))) (nd o5 (nd (qc FP 176 FP 177 aa 178 1 0 0 0 0 7 false 175 8 vn vn vn 179 1 aa 180) (nd (qs [(vs (sx [107]) 190)]) (nd o8 (nd o8 (nd (Sb P) (nd Us (nd Sa (nd (qg xS DD RH) (lf o7) nil) (lf o7)) (nd o7 (lf It) (lf o7))) (nd (qs [(vs EC 716),(vs zj 717)]) (nd (qd [(en P (sx [98]) 1060 (.int 2 1061)),(en P (sx [111]) 1062 (.int 8 1063)),(en P (sx [100]) 1064 (.int 10 1065)),(en P (sx [120]) 1066 (.int 16 1067))] 4) (lf Go) (lf Ie)) (nd Rb (lf (H9 P)) (lf (qs [(vs ah 2870),(vs eW 2871)]))))) (nd (qt bt [(vb bA),(vr 189)]) (nd WS (nd We (lf (qc ph 1771 ph 1772 aa 1773 619 0 0 0 0 1087 false 181 1088 vn vn vn 1774 619 aa 1775)) (lf (qg sJ B0 RC))) (nd o7 (lf o7) (lf o8))) (nd (Uj P) (nd o7 (lf Lh) (lf Hq)) (nd (qg Nh tQ tQ) (lf (qs [(vs iG 2324),(vs dY 2325),(vs nL 2326),(vs gQ 2327),(vs (sx [114,101,97,100,101,114]) 2328),(vs ck 2329)])) (lf (qs [(vs ah 2956),(vs fo 2957),(vs TK 2958)])))))) (nd (qd [(en P aE 308 (vs cA 214)),(en P bz 310 (vs lc 309)),(en P aC 312 (.int 29 311)),(en P ag 320 (vr 108)),(en P aD 322 (vr 109))] 5) (nd (qs [(vs dY 400),(vs dF 401),(vs bx 402),(vs bq 403)]) (nd (qd [(en P aE 582 (vs aK 417)),(en P bz 584 (vs lW 583)),(en P aC 586 (.int 101 585)),(en P ag 595 (vr 300)),(en P aD 599 (vr 301))] 5) (nd (qs [(vs fo 934),(vs Cz 935),(vs zw 936),(vs Na 937)]) (lf (Lu P)) (lf o7)) (nd (⟨(vt bm),none,.plain,⟨[(some (vr 800)),(some (vr 3)),(some (vr 797)),none,(some (vs bb 1056)),none,(some (vr 0))]⟩⟩) (lf o7) (lf (qg y6 CQ M0)))) (nd (qv [(vi 134),(vi 4),(vr 425)]) (nd o7 (lf (qs [(vs eW 1916),(vs dd 1917),(vs nA 1918)])) (lf (qs [(vs ah 2599),(vs bq 2600)]))) (nd o7 (lf Gn) (lf Kd)))) (nd o38 (nd o7 (nd o7 (lf o8) (lf o8)) (nd (qs [(vs eG 1418),(vs im 1419)]) (lf (qg B7 Dn N9)) (lf (qt c70 [(vr 1886),(vr 1886),(vr 1886)])))) (nd o38 (nd (qg f71 t8 t8) (lf o7) (lf o7)) (nd o7 (lf Jy) (lf Iw)))))) (nd o49 (nd (qc lO 276 lO 277 aa 278 23 0 0 0 0 79 false 181 80 vn vn vn 279 23 aa 280) (nd WG (nd o7 (nd o7 (lf Jq) (lf LC)) (nd (qg f78 sS sS) (lf (LR P)) (lf (qs [(vs ah 2735),(vs bq 2736)])))) (nd (qs [(vs ah 741),(vs Nx 742),(vs EC 743)]) (nd o8 (lf o7) (lf o7)) (nd Vj (lf o7) (lf (qg BM DA P9))))) (nd (⟨(vt bm),none,.plain,⟨[(some (vr 208)),(some (vr 3)),(some (vr 205)),none,(some (vs aK 417)),none,(some (vr 0))]⟩⟩) (nd o8 (nd o8 (lf J0) (lf Lp)) (nd o7 (lf (qs [(vs ah 2168),(vs eW 2169)])) (lf o7))) (nd UU (nd RY (lf o8) (lf o8)) (nd (⟨(vt bm),none,.plain,⟨[(some (vr 976)),(some (vr 3)),(some (vr 973)),none,(some (vs cj 1461)),none,(some (vr 0))]⟩⟩) (lf (qg Ob tM tM)) (lf (qt bt [(vb bA),(vr 1999)])))))) (nd (qt bt [(vb bA),(vr 111)]) (nd (qv [(vi 61),(vi 4),(vr 185)]) (nd (qt aP [(vs aM 602),(vr 303),(vb bZ),vn]) (nd (qg f46 mC mC) (lf o7) (lf (qs [(vs ah 2469),(vs bq 2470)]))) (nd o8 (lf (qt c70 [(vr 1326),(vr 1326),(vr 1326)])) (lf Jx))) (nd (qt bt [(vb bA),(vr 429)]) (nd TM (lf (qv [(vi 746),(vi 4),(vr 1209),(vi 756),(vi 4),(vr 1216),(vi 768),(vi 4),(vr 1223),(vi 774),(vi 4),(vr 1230),(vi 787),(vi 4),(vr 1237),(vi 797),(vi 4),(vr 1244),(vi 809),(vi 4),(vr 1251)])) (lf (qg tm Ea NT))) (nd (qs [(vs eW 1561),(vs nA 1562)]) (lf o7) (lf (Ld P))))) (nd o7 (nd (qt c70 [(vr 366),(vr 366),(vr 366)]) (nd V4 (lf o7) (lf o7)) (nd (qg f90 q0 q0) (lf Ly) (lf o7))) (nd (qt aP [(vs aQ 875),(vr 496),(vb cq),(vb ci)]) (nd Sd (lf (qg zt mB mB)) (lf Jl)) (nd (qs [(vs ah 1644),(vs eG 1645),(vs bq 1646),(vs wA 1647),(vs jR 1648)]) (lf o38) (lf JY))))))) (nd o25 (nd (qv [(vi 14),(vi 4),(vr 49)]) (nd o73 (nd (qv [(vi 43),(vi 4),(vr 145)]) (nd UL (nd W6 (lf IJ) (lf (qg Cb gj OK))) (nd o8 (lf o7) (lf o8))) (nd o38 (nd o7 (lf JV) (lf Jj)) (nd (qv [(vi 450),(vi 4),(vr 913)]) (lf (qs [(vs iG 2236),(vs dY 2237),(vs bq 2238)])) (lf o7)))) (nd PW (nd o7 (nd o7 (lf II) (lf Hm)) (nd (qg f84 sD sD) (lf o8) (lf (qs [(vs ah 2800),(vs SS 2801),(vs OZ 2802)])))) (nd (qg f31 on on) (nd o8 (lf o7) (lf o7)) (nd TD (lf o7) (lf o7))))) (nd o7 (nd o7 (nd o7 (nd o7 (lf (qd [(en P aE 1741 (vs ej 1726)),(en P bz 1743 (vs oO 1742)),(en P aC 1745 (.int 611 1744)),(en P ag 1755 (vr 1076)),(en P aD 1761 (vr 1077))] 5)) (lf o8)) (nd (qs [(vs iy 1338),(vs FA 1339),(vs il 1340)]) (lf (qg wO qx Ry)) (lf HI))) (nd S8 (nd (qg IG ag OT) (lf o7) (lf o7)) (nd o8 (lf Im) (lf o7)))) (nd (qs [(vs ah 512)]) (nd (qg Cp ag No) (nd (qt aP [(vs aM 1026),(vr 615),(vb bZ),vn]) (lf (qs [(vs ah 1830),(vs oP 1831),(vs Bs 1832),(vs dF 1833)])) (lf (qs [(vs ah 2534),(vs jd 2535),(vs bq 2536)]))) (nd o7 (lf LG) (lf (⟨(vt bm),none,.plain,⟨[(some (vr 1896)),(some (vr 3)),(some (vr 1893)),none,(some (vs jM 2831)),none,(some (vr 0))]⟩⟩)))) (nd (qs [(vs ah 866),(vs Cz 867),(vs zw 868)]) (nd Xk (lf (qt aP [(vs aM 2017),(vr 1255),(vb bZ),vn])) (lf (qg yu BP ML))) (nd o8 (lf o7) (lf o8)))))) (nd o57 (nd o89 (nd o8 (nd (Wc P) (nd o8 (lf o7) (lf GX)) (nd T8 (lf (qd [(en P aE 2098 (vs bf 2035)),(en P bz 2100 (vs pT 2099)),(en P aC 2102 (.int 842 2101)),(en P ag 2110 (vr 1316)),(en P qx 2118 (vr 1323)),(en P aD 2122 (vr 1324))] 6)) (lf o7))) (nd (qt aP [(vs aQ 751),(vr 408),(vb cq),(vb ci)]) (nd (qs [(vs bS 1116),(vs im 1117)]) (lf o8) (lf o8)) (nd (qt bt [(vb bA),(vr 917)]) (lf (qg Ms sV sV)) (lf Jw)))) (nd (qs [(vs bS 487),(vs eW 488)]) (nd Sc (nd (qd [(en P aE 1007 (vs xH 998)),(en P bz 1009 (vs l3 1008)),(en P aC 1011 (.int 208 1010)),(en P ag 1020 (vr 612)),(en P aD 1023 (vr 613))] 5) (lf o7) (lf o7)) (nd o8 (lf o7) (lf (qg rX CB O3)))) (nd o7 (nd o7 (lf (qs [(vs ah 1992),(vs DY 1993)])) (lf (qs [(vs ah 2667),(vs uB 2668),(vs bx 2669),(vs bq 2670)]))) (nd Xm (lf IB) (lf (qs [(vs QE 2988),(vs Wx 2989),(vs (sx [109,105,120,101,100]) 2990)])))))) (nd o7 (nd U6 (nd (qc lS 609 lS 610 aa 611 107 0 0 0 0 311 false 181 312 vn vn vn 612 107 aa 613) (nd TA (lf (qt aP [(vs aM 1764),(vr 1079),(vb bZ),vn])) (lf o7)) (nd (qs [(vs eG 1362),(vs im 1363),(vs Fm 1364),(vs Uu 1365),(vs Vu 1366)]) (lf (⟨(vt bm),none,.plain,⟨[(some (vr 1336)),(some (vr 3)),(some (vr 1333)),none,(some (vs bf 2035)),none,(some (vr 0))]⟩⟩)) (lf o7))) (nd o7 (nd TQ (lf Kb) (lf Lx)) (nd o7 (lf o8) (lf (qd [(en P aE 2947 (vs Ee 2938)),(en P bz 2949 (vs r7 2948)),(en P aC 2951 (.int 1131 2950)),(en P ag 2961 (vr 1989)),(en P Dq 2968 (vr 1996)),(en P aD 2973 (vr 1997))] 6))))) (nd (qg GH oX QU) (nd (⟨(vt bm),none,.plain,⟨[(some (vr 376)),(some (vr 3)),(some (vr 373)),none,(some (vs aK 417)),none,(some (vr 0))]⟩⟩) (nd TH (lf (qg we By NA)) (lf (qg yA Cq NI))) (nd (qg f91 se se) (lf o7) (lf o8))) (nd (qg f38 mJ mJ) (nd o7 (lf (qc oV 2047 oV 2048 aa 2049 829 0 0 0 0 1271 false 181 1272 vn vn vn 2050 829 aa 2051)) (lf KV)) (nd o7 (lf (qs [(vs ah 2408),(vs sq 2409)])) (lf o7)))))))) (nd (qc FP 182 FP 183 aa 184 1 0 0 0 0 11 false 181 12 vn vn vn 185 1 aa 186) (nd o21 (nd (qs [(vt c76)]) (nd o69 (nd o57 (nd (qs [(vs ah 545),(vs eW 546)]) (nd (qs [(vs bS 899)]) (lf o8) (lf o7)) (nd (qg f76 sO sO) (lf o7) (lf (qg yi D1 Nu)))) (nd (qt aP [(vs aM 721),(vr 387),(vb bZ),vn]) (nd o7 (lf (qs [(vs ah 1866),(vs ck 1867),(vs jR 1868),(vs dd 1869),(vs o0 1870),(vs FI 1871)])) (lf (qs [(vs ah 2567),(vs rc 2568)]))) (nd o7 (lf (qt c70 [(vr 1410),(vr 1410),(vr 1410)])) (lf Ju)))) (nd (W4 P) (nd (qt aP [(vs aQ 629),(vr 324),(vb cq),(vb ci)]) (nd o7 (lf o8) (lf o8)) (nd o7 (lf (qg x6 o0 NZ)) (lf Gy))) (nd (qt c70 [(vr 450),(vr 450),(vr 450)]) (nd (qg Ii Ep O1) (lf o7) (lf o7)) (nd o8 (lf HH) (lf HE))))) (nd (⟨(vt bm),none,.plain,⟨[(some (vr 100)),(some (vr 3)),(some (vr 97)),none,(some (vs cA 214)),none,(some (vr 0))]⟩⟩) (nd RU (nd (⟨(vt bm),none,.plain,⟨[(some (vr 292)),(some (vr 3)),(some (vr 289)),none,(some (vs aK 417)),none,(some (vr 0))]⟩⟩) (nd TN (lf (qt c70 [(vr 1058),(vr 1058),(vr 1058)])) (lf (qg wL ya Rt))) (nd o7 (lf o7) (lf o8))) (nd o8 (nd o7 (lf Li) (lf HP)) (nd (qg MQ t9 t9) (lf (qs [(vs iG 2283),(vs dY 2284),(vs dF 2285),(vs nL 2286),(vs bx 2287),(vs bq 2288)])) (lf o7)))) (nd (qc lH 499 lH 500 aa 501 71 0 0 0 0 227 false 181 228 vn vn vn 502 71 aa 503) (nd o7 (nd (qs [(vs iy 1021),(vs il 1022)]) (lf Mm) (lf JN)) (nd WB (lf o8) (lf (qd [(en P aE 2840 (vs jM 2831)),(en P bz 2842 (vs tY 2841)),(en P aC 2844 (.int 1094 2843)),(en P ag 2851 (vr 1904)),(en P oX 2858 (vr 1911)),(en P eS 2866 (vr 1918)),(en P Ce 2874 (vr 1925)),(en P Ax 2882 (vr 1932)),(en P DA 2891 (vr 1939)),(en P B8 2899 (vr 1946)),(en P Ej 2907 (vr 1953)),(en P CV 2915 (vr 1960)),(en P A8 2924 (vr 1967)),(en P aD 2930 (vr 1968))] 14)))) (nd (qc lj 853 lj 854 aa 855 153 0 0 0 0 483 false 181 484 vn vn vn 856 153 aa 857) (nd o8 (lf (qs [(vs Wd 2006),(vs (sx [108,101,110,103,116,104]) 2007),(vs CD 2008),(vs (sx [112,105,101,99,101,115]) 2009),(vs fo 2010),(vs im 2011),(vs sq 2012),(vs (sx [119,97,105,116,105,110,103]) 2013)])) (lf o7)) (nd (qg Ca Bq N5) (lf o7) (lf (qg Qn vK vK))))))) (nd o53 (nd (qs [(vs ah 289),(vs Fw 290),(vs bx 291)]) (nd SK (nd (qg LO Bn MH) (nd (qg f42 mu mu) (lf o7) (lf (qs [(vs ah 2440)]))) (nd o8 (lf (qt c70 [(vr 1298),(vr 1298),(vr 1298)])) (lf Kg))) (nd XC (nd Xw (lf (qg UE rL rL)) (lf (qg rF Dj MB))) (nd VP (lf o7) (lf o8)))) (nd o7 (nd UP (nd SY (lf o7) (lf o7)) (nd (qg f86 sY sY) (lf LF) (lf o7))) (nd o7 (nd (qt bt [(vb bA),(vr 721)]) (lf Hj) (lf Jd)) (nd (qs [(vs ah 1607),(vs eW 1608),(vs fo 1609),(vs OJ 1610)]) (lf o8) (lf Gp))))) (nd o7 (nd o8 (nd o38 (nd o8 (lf (qs [(vs jR 1756),(vs (sx [115,116,97,116,101]) 1757),(vs xg 1758),(vs Av 1759),(vs eG 1760)])) (lf IC)) (nd UT (lf (qd [(en P aE 2137 (vs bf 2035)),(en P bz 2139 (vs qi 2138)),(en P aC 2141 (.int 851 2140)),(en P ag 2148 (vr 1344)),(en P o0 2156 (vr 1351)),(en P CT 2164 (vr 1358)),(en P Em 2172 (vr 1365)),(en P Do 2181 (vr 1372)),(en P Dn 2189 (vr 1379)),(en P B1 2197 (vr 1386)),(en P BY 2205 (vr 1393)),(en P C2 2213 (vr 1400)),(en P DJ 2220 (vr 1407)),(en P aD 2225 (vr 1408))] 14)) (lf o7))) (nd o7 (nd (qs [(vs ah 1157),(vs pE 1158),(vs il 1159),(vs iy 1160),(vs dd 1161),(vs wa 1162)]) (lf o8) (lf o8)) (nd Vl (lf (qg NG sv sv)) (lf (qt c70 [(vr 1970),(vr 1970),(vr 1970)]))))) (nd o7 (nd (qd [(en P aE 703 (vs aK 417)),(en P bz 705 (vs lX 704)),(en P aC 707 (.int 121 706)),(en P ag 715 (vr 384)),(en P aD 718 (vr 385))] 5) (nd (qs [(vs il 1042),(vs iy 1043)]) (lf o7) (lf o7)) (nd o7 (lf o7) (lf (qg AH oX Qg)))) (nd o7 (nd o7 (lf o38) (lf (qs [(vs ah 2701),(vs bq 2702)]))) (nd Hy (lf (qc sh 2395 sh 2396 aa 2397 939 0 0 0 0 1523 false 181 1524 vn vn vn 2398 939 aa 2399)) (lf o7))))))) (nd (qg f3 ny ny) (nd o8 (nd o38 (nd o8 (nd o7 (nd o7 (lf (qs [(vs ah 1685),(vs jR 1686),(vs Vz 1687),(vs wA 1688)])) (lf o8)) (nd Vo (lf (qg wJ De RK)) (lf IS))) (nd (qc l6 728 l6 729 aa 730 126 0 0 0 0 395 false 181 396 vn vn vn 731 126 aa 732) (nd (qg f66 rM rM) (lf (qt aP [(vs aQ 1879),(vr 1164),(vb cq),(vb ci)])) (lf o7)) (nd o8 (lf I7) (lf o7)))) (nd (qd [(en P aE 473 (vs aK 417)),(en P bz 475 (vs kX 474)),(en P aC 477 (.int 66 476)),(en P ag 486 (vr 216)),(en P aD 489 (vr 217))] 5) (nd (qv [(vi 113),(vi 4),(vr 341)]) (nd (qg f50 n5 n5) (lf (qs [(vs ah 1796)])) (lf (qs [(vs ah 2501),(vs bq 2502)]))) (nd o8 (lf IU) (lf Jo))) (nd o8 (nd Tj (lf (qg xG ck Qa)) (lf (qg yV Cj Qp))) (nd (qd [(en P aE 1598 (vs cj 1461)),(en P bz 1600 (vs pA 1599)),(en P aC 1602 (.int 486 1601)),(en P ag 1613 (vr 985)),(en P Bm 1622 (vr 992)),(en P Bq 1630 (vr 999)),(en P oP 1640 (vr 1006)),(en P dd 1651 (vr 1013)),(en P CW 1660 (vr 1020)),(en P DD 1671 (vr 1027)),(en P Ds 1681 (vr 1034)),(en P Ck 1691 (vr 1041)),(en P AW 1702 (vr 1048)),(en P kb 1713 (vr 1055)),(en P aD 1718 (vr 1056))] 15) (lf o7) (lf (qs [(vs TK 2969),(vs (sx [112,111,114,116,115]) 2970),(vs fo 2971),(vs (sx [116,111,119,101,114]) 2972)])))))) (nd (qs [(vs CD 321)]) (nd o7 (nd (qs [(vs vY 596),(vs xf 597),(vs zj 598)]) (nd o7 (lf (⟨(vt bm),none,.plain,⟨[(some (vr 1068)),(some (vr 3)),(some (vr 1065)),none,(some (vs ej 1726)),none,(some (vr 0))]⟩⟩)) (lf Kw)) (nd (qt aP [(vs aM 1344),(vr 811),(vb bZ),vn]) (lf (KG P)) (lf (qs [(vs ah 2768),(vs bS 2769)])))) (nd SD (nd o8 (lf o7) (lf o7)) (nd UB (lf o7) (lf (qg Bh A8 Qj))))) (nd W2 (nd (SF P) (nd o8 (lf Mi) (lf JL)) (nd o7 (lf (qs [(vs ah 2201),(vs dF 2202)])) (lf o7))) (nd Vp (nd (qs [(vs xt 1253),(vs pE 1254),(vs DB 1255)]) (lf o7) (lf o8)) (nd Iv (lf (qg MJ rQ rQ)) (lf o7)))))) (nd (qv [(vi 19),(vi 4),(vr 69)]) (nd (qt c70 [(vr 92),(vr 92),(vr 92)]) (nd Uz (nd (qt c70 [(vr 282),(vr 282),(vr 282)]) (nd VT (lf (qg tU kb Qe)) (lf o7)) (nd (qd [(en P aE 1323 (vs bb 1056)),(en P bz 1325 (vs qq 1324)),(en P aC 1327 (.int 346 1326)),(en P ag 1337 (vr 808)),(en P aD 1341 (vr 809))] 5) (lf (⟨(vt bm),none,.plain,⟨[(some (vr 1308)),(some (vr 3)),(some (vr 1305)),none,(some (vs bf 2035)),none,(some (vr 0))]⟩⟩)) (lf o7))) (nd o7 (nd W1 (lf LU) (lf GZ)) (nd o7 (lf o8) (lf (qs [(vs ah 2903),(vs Fu 2904)]))))) (nd (qt aP [(vs aM 492),(vr 219),(vb bZ),vn]) (nd (qt bt [(vb bA),(vr 345)]) (nd (⟨(vt bm),none,.plain,⟨[(some (vr 604)),(some (vr 3)),(some (vr 601)),none,(some (vs xH 998)),none,(some (vr 0))]⟩⟩) (lf (qg xe xE NC)) (lf (qg yw xf OU))) (nd VK (lf o7) (lf (G6 P)))) (nd (qg f34 gj gj) (nd o7 (lf KO) (lf Lr)) (nd o7 (lf (qs [(vs iG 2364),(vs dY 2365),(vs nL 2366),(vs gQ 2367),(vs eW 2368)])) (lf GV))))) (nd (qg K9 ag Mr) (nd Xq (nd (qs [(vs ah 622),(vs rc 623)]) (nd (qs [(vs rS 971)]) (lf o38) (lf o7)) (nd Vh (lf o7) (lf (qg tD Du QQ)))) (nd (qg LK ag QT) (nd o7 (lf (qs [(vs ah 1956),(vs ck 1957),(vs eG 1958),(vs DY 1959)])) (lf (qs [(vs ah 2634),(vs (sx [105,116,101,109,115]) 2635)]))) (nd o7 (lf L9) (lf (⟨(vt bm),none,.plain,⟨[(some (vr 1980)),(some (vr 3)),(some (vr 1977)),none,(some (vs Ee 2938)),none,(some (vr 0))]⟩⟩))))) (nd o8 (nd o7 (nd o7 (lf o8) (lf o8)) (nd O5 (lf (qg Di DJ PJ)) (lf JR))) (nd o8 (nd (qg f75 rl rl) (lf (qs [(vs ah 2060),(vs su 2061)])) (lf o7)) (nd o7 (lf Ig) (lf Kf)))))))))) (nd (TR P) (nd o4 (nd o8 (nd o8 (nd o7 (nd o7 (nd (qs [(vs ck 348),(vs dF 349),(vs bx 350)]) (nd (qg HB BX Po) (nd (qg f39 mD mD) (nd o7 (lf (qs [(vs (sx [115,99,114,105,112,116]) 3038),(vs QE 3039),(vs TJ 3040),(vs dY 3041),(vs gQ 3042),(vs Fu 3043),(vs (sx [116,117,114,110]) 3044),(vs (sx [116,114,101,101]) 3045),(vs (sx [119,104,111,108,101]) 3046),(vs (sx [115,101,101,110]) 3047),(vs Wj 3048),(vs (sx [115,105,103,110,115]) 3049),(vs rc 3050)])) nil) (lf (qs [(vs ah 2416),(vs (sx [102,108,97,103]) 2417)]))) (nd Wn (lf JA) (lf KI))) (nd Uk (nd Xv (lf (qg x9 pz PL)) (lf (qg yo CH NL))) (nd OW (lf (qs [(vs (sx [99,117,114,114,101,110,116,95,105,110,112,117,116]) 2221),(vs (sx [99,117,114,114,101,110,116,95,111,117,116,112,117,116]) 2222),(vs (sx [102,105,108,101,115]) 2223),(vs Fu 2224)])) (lf o8)))) (nd (qt c70 [(vr 189),(vr 189),(vr 189)]) (nd WC (nd Vt (lf (qv [(vi 621),(vi 4),(vr 1097),(vi 626),(vi 4),(vr 1104),(vi 629),(vi 4),(vr 1111),(vi 646),(vi 4),(vr 1118),(vi 652),(vi 4),(vr 1125),(vi 656),(vi 4),(vr 1132),(vi 669),(vi 4),(vr 1139),(vi 677),(vi 4),(vr 1146),(vi 690),(vi 4),(vr 1153),(vi 693),(vi 4),(vr 1160)])) (lf o7)) (nd (qs [(vs (sx [97,104,101,97,100]) 1373),(vs Sv 1374),(vs PY 1375),(vs (sx [117,110,107,110,111,119,110]) 1376),(vs xE 1377)]) (lf Mh) (lf o7))) (nd (qs [(vs pW 807)]) (nd V1 (lf GF) (lf Kq)) (nd o7 (lf o8) (lf o8))))) (nd o38 (nd o8 (nd o38 (nd o8 (lf (qs [(vs OJ 1714),(vs bx 1715),(vs fo 1716),(vs eW 1717)])) (lf G1)) (nd (qc qq 1318 qq 1319 aa 1320 346 0 0 0 0 798 false 181 799 vn vn vn 1321 346 aa 1322) (lf (qs [(vs ah 2106),(vs su 2107)])) (lf o7))) (nd o7 (nd (qd [(en P aE 1128 (vs bb 1056)),(en P bz 1130 (vs pJ 1129)),(en P aC 1132 (.int 254 1131)),(en P ag 1144 (vr 683)),(en P DV 1153 (vr 690)),(en P AY 1165 (vr 697)),(en P Df 1177 (vr 704)),(en P Ep 1188 (vr 711)),(en P CP 1200 (vr 718)),(en P aD 1207 (vr 719))] 10) (lf o8) (lf o8)) (nd TZ (lf (qg NE sN sN)) (lf K8)))) (nd o7 (nd (qd [(en P aE 673 (vs aK 417)),(en P bz 675 (vs l8 674)),(en P aC 677 (.int 116 676)),(en P ag 685 (vr 363)),(en P aD 688 (vr 364))] 5) (nd (qs [(vs ah 1015),(vs il 1016),(vs iy 1017)]) (lf o7) (lf o7)) (nd o8 (lf o7) (lf (qt aP [(vs aM 2826),(vr 1886),(vb bZ),vn])))) (nd o7 (nd o7 (lf (qs [(vs ah 2000),(vs DY 2001),(vs dd 2002)])) (lf (qs [(vs ah 2677),(vs bS 2678)]))) (nd Tf (lf Kl) (lf (qg O8 uC uC))))))) (nd (qg TE ag OS) (nd (qv [(vi 25),(vi 4),(vr 88)]) (nd (qg JP ag OD) (nd Wm (nd VB (lf Ka) (lf (qg DH Dk OR))) (nd o8 (lf (qs [(vs su 2079),(vs ER 2080),(vs WH 2081),(vs bx 2082)])) (lf o8))) (nd o8 (nd o7 (lf (qt bt [(vb bA),(vr 1164)])) (lf Md)) (nd (qg w8 ag QZ) (lf (qs [(vs iG 2245),(vs dY 2246),(vs dF 2247),(vs bx 2248),(vs bq 2249),(vs ER 2250),(vs gQ 2251)])) (lf o7)))) (nd (qc kX 468 kX 469 aa 470 66 0 0 0 0 206 false 181 207 vn vn vn 471 66 aa 472) (nd o7 (nd o7 (lf LH) (lf GP)) (nd T4 (lf o8) (lf (qs [(vs ah 2809),(vs bq 2810)])))) (nd WP (nd (Uv P) (lf o7) (lf o7)) (nd (qc pA 1593 pA 1594 aa 1595 486 0 0 0 0 974 false 181 975 vn vn vn 1596 486 aa 1597) (lf o7) (lf (qt c70 [(vr 1999),(vr 1999),(vr 1999)])))))) (nd (qt c70 [(vr 111),(vr 111),(vr 111)]) (nd o7 (nd (qt aP [(vs aQ 600),(vr 303),(vb cq),(vb ci)]) (nd o7 (lf (qs [(vs ah 1749),(vs eG 1750),(vs jR 1751),(vs Av 1752)])) (lf o8)) (nd o7 (lf (qt aP [(vs aM 2125),(vr 1326),(vb bZ),vn])) (lf Ht))) (nd (qt c70 [(vr 429),(vr 429),(vr 429)]) (nd (qg Ip DV MT) (lf o7) (lf o7)) (nd o8 (lf HY) (lf (qs [(vs xE 2925),(vs (sx [111,112,115]) 2926),(vs (sx [114,111,111,116]) 2927),(vs sq 2928),(vs (sx [116,105,116,108,101,115]) 2929)]))))) (nd (qs [(vs ah 519),(vs eW 520),(vs dd 521)]) (nd (qt aP [(vs aM 691),(vr 366),(vb bZ),vn]) (nd (qg f54 nu nu) (lf (qs [(vs ah 1840),(vs oP 1841),(vs FI 1842)])) (lf (qs [(vs ah 2543),(vs bS 2544)]))) (nd o7 (lf KY) (lf IN))) (nd T7 (nd Xx (lf o7) (lf (qg yv AK QK))) (nd o8 (lf o7) (lf Gl))))))) (nd (qg f2 oH oH) (nd o7 (nd (o72 P) (nd o7 (nd V6 (nd Wo (lf (qg wx Ds Oo)) (lf o7)) (nd o7 (lf JT) (lf o7))) (nd o7 (nd Vn (lf Lc) (lf KB)) (nd o7 (lf o8) (lf (qs [(vs ah 2878),(vs bS 2879)]))))) (nd (Xz P) (nd (qt bt [(vb bA),(vr 324)]) (nd Wz (lf (qg j1 ag FR)) (lf (qg sC jd Ql))) (nd o7 (lf o7) (lf o8))) (nd o8 (nd o7 (lf KZ) (lf Hp)) (nd (qg Rx sw sw) (lf (qs [(vs dY 2336),(vs rc 2337)])) (lf (qs [(vs ah 2965)])))))) (nd (qs [(vs ah 316),(vs CD 317)]) (nd (qs [(vs dY 410),(vs dF 411),(vs bx 412),(vs bq 413)]) (nd (qs [(vs ah 590),(vs vY 591),(vs xf 592)]) (nd (qs [(vs bS 944),(vs (sx [105,115,95,109,111,114,101]) 945)]) (lf o38) (lf o7)) (nd SI (lf o7) (lf (qg ym DG QM)))) (nd (qg Ci ag PK) (nd o7 (lf (qs [(vs ck 1925)])) (lf (qs [(vs ah 2607),(vs kb 2608)]))) (nd o7 (lf Ks) (lf JB)))) (nd o8 (nd o7 (nd (qt aP [(vs aQ 1024),(vr 615),(vb cq),(vb ci)]) (lf o8) (lf o8)) (nd (qs [(vs eG 1426),(vs im 1427),(vs U4 1428),(vs (sx [104,97,115,95,114,97,100,105,120]) 1429),(vs o0 1430),(vs zj 1431)]) (lf (qg DI B1 RA)) (lf (qc tY 2835 tY 2836 aa 2837 1094 0 0 0 0 1894 false 181 1895 vn vn vn 2838 1094 aa 2839)))) (nd o8 (nd (qg f72 sG sG) (lf (qt aP [(vs aQ 2015),(vr 1255),(vb cq),(vb ci)])) (lf o7)) (nd o7 (lf Ha) (lf o7)))))) (nd (qt bt [(vb bA),(vr 53)]) (nd o88 (nd o7 (nd (qs [(vs (sx [98,121,95,116,101,120,116]) 565),(vs Fu 566)]) (nd o7 (lf Hz) (lf Hi)) (nd (qg f79 te te) (lf o38) (lf (qs [(vs ah 2743),(vs vd 2744)])))) (nd V2 (nd o8 (lf o7) (lf o7)) (nd (qt c70 [(vr 917),(vr 917),(vr 917)]) (lf o7) (lf (qg Cs B8 Rd))))) (nd UO (nd (TY P) (nd o38 (lf Jv) (lf Jn)) (nd o7 (lf (qs [(vs ah 2176),(vs dF 2177),(vs eW 2178)])) (lf o7))) (nd UX (nd (qs [(vs Ul 1218),(vs dd 1219),(vs pE 1220),(vs UF 1221),(vs VI 1222),(vs OZ 1223),(vs PY 1224),(vs Vz 1225)]) (lf o8) (lf o8)) (nd Ua (lf (qg N2 tC tC)) (lf o8))))) (nd (⟨(vt bm),none,.plain,⟨[(some (vr 119)),(some (vr 3)),(some (vr 116)),none,(some (vs cA 214)),none,(some (vr 0))]⟩⟩) (nd (qg Gw ag OF) (nd (qv [(vi 109),(vi 4),(vr 320)]) (nd (qg f47 oh oh) (lf (qt aP [(vs aQ 1762),(vr 1079),(vb cq),(vb ci)])) (lf (qs [(vs ah 2477)]))) (nd o8 (lf (qc qi 2132 qi 2133 aa 2134 851 0 0 0 0 1334 false 181 1335 vn vn vn 2135 851 aa 2136)) (lf IF))) (nd (⟨(vt bm),none,.plain,⟨[(some (vr 439)),(some (vr 3)),(some (vr 436)),none,(some (vs aK 417)),none,(some (vr 0))]⟩⟩) (nd WR (lf (qg wp ag QA)) (lf (qg yk CZ Qu))) (nd (qs [(vs eW 1569)]) (lf o7) (lf o38)))) (nd o7 (nd (qc lX 698 lX 699 aa 700 121 0 0 0 0 374 false 181 375 vn vn vn 701 121 aa 702) (nd Ui (lf o7) (lf o7)) (nd o7 (lf L0) (lf o7))) (nd o7 (nd Wv (lf (qv [(vi 831),(vi 4),(vr 1280),(vi 837),(vi 4),(vr 1287),(vi 840),(vi 4),(vr 1294)])) (lf GQ)) (nd (qs [(vs ah 1655),(vs jR 1656),(vs o0 1657)]) (lf o8) (lf Km)))))))) (nd (qv [(vi 1),(vi 0),(vr 20),(vi 5),(vi 0),(vr 25),(vi 7),(vi 0),(vr 30),(vi 9),(vi 0),(vr 35),(vi 12),(vi 0),(vr 42),(vi 17),(vi 0),(vr 62),(vi 23),(vi 0),(vr 81),(vi 29),(vi 0),(vr 100),(vi 34),(vi 0),(vr 119),(vi 41),(vi 0),(vr 138),(vi 49),(vi 0),(vr 157),(vi 52),(vi 0),(vr 164),(vi 55),(vi 0),(vr 171),(vi 59),(vi 0),(vr 178),(vi 66),(vi 0),(vr 208),(vi 71),(vi 0),(vr 229),(vi 101),(vi 0),(vr 292),(vi 107),(vi 0),(vr 313),(vi 111),(vi 0),(vr 334),(vi 116),(vi 0),(vr 355),(vi 121),(vi 0),(vr 376),(vi 126),(vi 0),(vr 397),(vi 132),(vi 0),(vr 418),(vi 136),(vi 0),(vr 439),(vi 140),(vi 0),(vr 458),(vi 142),(vi 0),(vr 463),(vi 144),(vi 0),(vr 471),(vi 149),(vi 0),(vr 478),(vi 153),(vi 0),(vr 485),(vi 158),(vi 0),(vr 506),(vi 160),(vi 0),(vr 513),(vi 162),(vi 0),(vr 520),(vi 164),(vi 0),(vr 527),(vi 166),(vi 0),(vr 534),(vi 173),(vi 0),(vr 541),(vi 178),(vi 0),(vr 548),(vi 183),(vi 0),(vr 555),(vi 185),(vi 0),(vr 562),(vi 194),(vi 0),(vr 569),(vi 198),(vi 0),(vr 576),(vi 200),(vi 0),(vr 583),(vi 202),(vi 0),(vr 590),(vi 204),(vi 0),(vr 597),(vi 208),(vi 0),(vr 604),(vi 213),(vi 0),(vr 625),(vi 218),(vi 0),(vr 632),(vi 220),(vi 0),(vr 639),(vi 233),(vi 0),(vr 647),(vi 241),(vi 0),(vr 654),(vi 248),(vi 0),(vr 661),(vi 250),(vi 0),(vr 668),(vi 254),(vi 0),(vr 675),(vi 290),(vi 0),(vr 731),(vi 299),(vi 0),(vr 738),(vi 302),(vi 0),(vr 745),(vi 310),(vi 0),(vr 752),(vi 313),(vi 0),(vr 759),(vi 323),(vi 0),(vr 766),(vi 329),(vi 0),(vr 774),(vi 336),(vi 0),(vr 781),(vi 341),(vi 0),(vr 786),(vi 343),(vi 0),(vr 793),(vi 346),(vi 0),(vr 800),(vi 352),(vi 0),(vr 821),(vi 357),(vi 0),(vr 828),(vi 365),(vi 0),(vr 835),(vi 371),(vi 0),(vr 842),(vi 376),(vi 0),(vr 847),(vi 379),(vi 0),(vr 854),(vi 388),(vi 0),(vr 861),(vi 399),(vi 0),(vr 868),(vi 405),(vi 0),(vr 875),(vi 417),(vi 0),(vr 882),(vi 424),(vi 0),(vr 890),(vi 448),(vi 0),(vr 906),(vi 455),(vi 0),(vr 927),(vi 461),(vi 0),(vr 934),(vi 463),(vi 0),(vr 941),(vi 465),(vi 0),(vr 948),(vi 474),(vi 0),(vr 955),(vi 476),(vi 0),(vr 962),(vi 481),(vi 0),(vr 969),(vi 486),(vi 0),(vr 976),(vi 611),(vi 0),(vr 1068),(vi 619),(vi 0),(vr 1089),(vi 711),(vi 0),(vr 1174),(vi 723),(vi 0),(vr 1181),(vi 726),(vi 0),(vr 1188),(vi 734),(vi 0),(vr 1195),(vi 744),(vi 0),(vr 1202),(vi 822),(vi 0),(vr 1266),(vi 829),(vi 0),(vr 1273),(vi 842),(vi 0),(vr 1308),(vi 851),(vi 0),(vr 1336),(vi 886),(vi 0),(vr 1420),(vi 888),(vi 0),(vr 1427),(vi 892),(vi 0),(vr 1434),(vi 896),(vi 0),(vr 1441),(vi 899),(vi 0),(vr 1448),(vi 902),(vi 0),(vr 1455),(vi 905),(vi 0),(vr 1462),(vi 907),(vi 0),(vr 1469),(vi 910),(vi 0),(vr 1476),(vi 916),(vi 0),(vr 1483),(vi 918),(vi 0),(vr 1490),(vi 924),(vi 0),(vr 1497),(vi 926),(vi 0),(vr 1504),(vi 931),(vi 0),(vr 1511),(vi 934),(vi 0),(vr 1518),(vi 939),(vi 0),(vr 1525),(vi 1094),(vi 0),(vr 1896),(vi 1131),(vi 0),(vr 1980),(vi 1143),(vi 0),(vr 2005),(vi 1145),(vi 0),(vr 2012),(vi 1151),(vi 0),(vr 2017),(vi 1162),(vi 0),(vr 2022),(vi 1171),(vi 0),(vr 2027),(vi 1188),(vi 0),(vr 2032),(vi 1207),(vi 0),(vr 2039),(vi 1214),(vi 0),(vr 2044),(vi 1217),(vi 0),(vr 2051)]) (nd o20 (nd o36 (nd (qg W3 ag PX) (nd (qt bt [(vb bA),(vr 130)]) (nd o8 (nd o8 (nd o7 (lf Bp) nil) (lf IK)) (nd o7 (lf (qs [(vs ah 2068)])) (lf o7))) (nd (qt aP [(vs aQ 719),(vr 387),(vb cq),(vb ci)]) (nd (qs [(vs bS 1086),(vs im 1087),(vs dd 1088),(vs (sx [102,105,103,117,114,101]) 1089)]) (lf o8) (lf o8)) (nd Qc (lf (qt aP [(vs aM 2228),(vr 1410),(vb bZ),vn])) (lf IV)))) (nd (ob (vt bm) none (.dict ⟨[(en P ah 449 (vr 195)),(en P pW 450 (vs wu 448))]⟩ 2)) (nd UC (nd (qs [(vs rS 978)]) (lf o7) (lf o7)) (nd VY (lf o7) (lf (qg yH C8 QO)))) (nd (qt aP [(vs aM 811),(vr 450),(vb bZ),vn]) (nd o7 (lf (qs [(vs ah 1966),(vs (sx [112,105,101,99,101]) 1967)])) (lf (qs [(vs ah 2642),(vs bq 2643)]))) (nd o7 (lf I9) (lf K6))))) (nd (qc lc 303 lc 304 aa 305 29 0 0 0 0 98 false 181 99 vn vn vn 306 29 aa 307) (nd Xo (nd (qc lW 577 lW 578 aa 579 101 0 0 0 0 290 false 181 291 vn vn vn 580 101 aa 581) (nd VD (lf (qt aP [(vs aM 1721),(vr 1058),(vb bZ),vn])) (lf o7)) (nd (qs [(vs ah 1331),(vs il 1332),(vs iy 1333),(vs FA 1334)]) (lf GD) (lf o7))) (nd o7 (nd (⟨(vt bm),none,.plain,⟨[(some (vr 675)),(some (vr 3)),(some (vr 672)),none,(some (vs bb 1056)),none,(some (vr 0))]⟩⟩) (lf Kh) (lf HG)) (nd o7 (lf o8) (lf (qs [(vs ah 2911),(vs eS 2912)]))))) (nd (qv [(vi 73),(vi 4),(vr 236),(vi 77),(vi 4),(vr 243),(vi 85),(vi 4),(vr 250),(vi 90),(vi 4),(vr 257),(vi 93),(vi 4),(vr 264),(vi 96),(vi 4),(vr 271),(vi 99),(vi 4),(vr 278)]) (nd (⟨(vt bm),none,.plain,⟨[(some (vr 355)),(some (vr 3)),(some (vr 352)),none,(some (vs aK 417)),none,(some (vr 0))]⟩⟩) (nd WU (lf (qg Cn Cf Ov)) (lf (qg yq Dw Qz))) (nd Uq (lf o7) (lf o38))) (nd (qv [(vi 155),(vi 4),(vr 492)]) (nd o7 (lf G9) (lf I8)) (nd o7 (lf (qs [(vs iG 2375),(vs dY 2376),(vs nL 2377)])) (lf o8)))))) (nd (o52 P) (nd o8 (nd (SH P) (nd o7 (nd o7 (lf (qs [(vs ah 1695),(vs jR 1696),(vs wA 1697),(vs Gf 1698),(vs nA 1699)])) (lf o8)) (nd o7 (lf (qt aP [(vs aM 2086),(vr 1298),(vb bZ),vn])) (lf GL))) (nd WN (nd (qg f67 sk sk) (lf o7) (lf o7)) (nd (SQ P) (lf GJ) (lf o7)))) (nd (qs [(vs ah 481),(vs bS 482),(vs eW 483)]) (nd (qg Dg ag Rn) (nd (qg f51 ng ng) (lf (qs [(vs ah 1803),(vs oP 1804),(vs ck 1805)])) (lf (qs [(vs ah 2509),(vs jd 2510)]))) (nd o7 (lf Ho) (lf Ib))) (nd (qs [(vs Av 831),(vs xg 832),(vs dd 833),(vs bx 834)]) (nd (qt c70 [(vr 721),(vr 721),(vr 721)]) (lf (qg xN jd Qx)) (lf (qg yd An Np))) (nd o8 (lf o7) (lf (qg Qq uP uP)))))) (nd (qd [(en P aE 333 (vs cA 214)),(en P bz 335 (vs la 334)),(en P aC 337 (.int 34 336)),(en P ag 347 (vr 127)),(en P aD 351 (vr 128))] 5) (nd o7 (nd o7 (nd o7 (lf Gr) (lf Hw)) (nd (qg f81 tf tf) (lf o38) (lf (qs [(vs ah 2776),(vs bq 2777)])))) (nd (qd [(en P aE 794 (vs aK 417)),(en P bz 796 (vs lh 795)),(en P aC 798 (.int 136 797)),(en P ag 806 (vr 447)),(en P aD 808 (vr 448))] 5) (nd o8 (lf o7) (lf o7)) (nd U1 (lf o7) (lf (qt aP [(vs aM 2933),(vr 1970),(vb bZ),vn]))))) (nd V3 (nd o38 (nd o8 (lf HM) (lf Ic)) (nd UH (lf (qs [(vs ah 2209),(vs dF 2210)])) (lf o7))) (nd (qt bt [(vb bA),(vr 496)]) (nd (qs [(vs xt 1262),(vs pE 1263),(vs (sx [112,111,105,110,116]) 1264),(vs Sv 1265)]) (lf o7) (lf o8)) (nd Hx (lf (qv [(vi 941),(vi 4),(vr 1532),(vi 944),(vi 4),(vr 1539),(vi 947),(vi 4),(vr 1546),(vi 950),(vi 4),(vr 1553),(vi 953),(vi 4),(vr 1560),(vi 956),(vi 4),(vr 1567),(vi 959),(vi 4),(vr 1574),(vi 962),(vi 4),(vr 1581),(vi 965),(vi 4),(vr 1588),(vi 968),(vi 4),(vr 1595),(vi 971),(vi 4),(vr 1602),(vi 974),(vi 4),(vr 1609),(vi 977),(vi 4),(vr 1616),(vi 980),(vi 4),(vr 1623),(vi 983),(vi 4),(vr 1630),(vi 986),(vi 4),(vr 1637),(vi 989),(vi 4),(vr 1644),(vi 992),(vi 4),(vr 1651),(vi 995),(vi 4),(vr 1658),(vi 998),(vi 4),(vr 1665),(vi 1001),(vi 4),(vr 1672),(vi 1004),(vi 4),(vr 1679),(vi 1007),(vi 4),(vr 1686),(vi 1010),(vi 4),(vr 1693),(vi 1013),(vi 4),(vr 1700),(vi 1016),(vi 4),(vr 1707),(vi 1019),(vi 4),(vr 1714),(vi 1022),(vi 4),(vr 1721),(vi 1025),(vi 4),(vr 1728),(vi 1028),(vi 4),(vr 1735),(vi 1031),(vi 4),(vr 1742),(vi 1034),(vi 4),(vr 1749),(vi 1037),(vi 4),(vr 1756),(vi 1040),(vi 4),(vr 1763),(vi 1043),(vi 4),(vr 1770),(vi 1046),(vi 4),(vr 1777),(vi 1049),(vi 4),(vr 1784),(vi 1052),(vi 4),(vr 1791),(vi 1055),(vi 4),(vr 1798),(vi 1058),(vi 4),(vr 1805),(vi 1061),(vi 4),(vr 1812),(vi 1064),(vi 4),(vr 1819),(vi 1067),(vi 4),(vr 1826),(vi 1070),(vi 4),(vr 1833),(vi 1073),(vi 4),(vr 1840),(vi 1076),(vi 4),(vr 1847),(vi 1079),(vi 4),(vr 1854),(vi 1082),(vi 4),(vr 1861),(vi 1085),(vi 4),(vr 1868),(vi 1088),(vi 4),(vr 1875),(vi 1091),(vi 4),(vr 1882)])) (lf (qs [(vs QE 3021),(vs TJ 3022),(vs dY 3023),(vs gQ 3024),(vs (sx [119,97,121]) 3025)])))))))) (nd o8 (nd o7 (nd o57 (nd o7 (nd (qs [(vs ah 553),(vs eS 554)]) (nd (qs [(vs bS 906)]) (lf o8) (lf o7)) (nd (qg f77 sF sF) (lf o7) (lf (qg yM vd MM)))) (nd (qv [(vi 128),(vi 4),(vr 404)]) (nd o7 (lf KW) (lf (qs [(vs ah 2575),(vs bq 2576)]))) (nd o7 (lf KQ) (lf Kr)))) (nd o38 (nd o7 (nd o7 (lf o8) (lf o8)) (nd o7 (lf (qg v5 CT PG)) (lf Jr))) (nd o7 (nd (qg KF CP OQ) (lf o7) (lf o7)) (nd o38 (lf Jp) (lf GB))))) (nd Sn (nd SR (nd Xj (nd SM (lf (qc oO 1736 oO 1737 aa 1738 611 0 0 0 0 1066 false 181 1067 vn vn vn 1739 611 aa 1740)) (lf (qg BD Ec M8))) (nd (qt aP [(vs aQ 1342),(vr 811),(vb cq),(vb ci)]) (lf (qs [(vs su 2119),(vs ER 2120),(vs WH 2121)])) (lf o8))) (nd (Tt P) (nd o7 (lf GC) (lf K4)) (nd (qg OB sr sr) (lf (qs [(vs iG 2295),(vs dY 2296),(vs nL 2297),(vs su 2298)])) (lf o7)))) (nd Tz (nd (qs [(vs zj 686),(vs Av 687)]) (nd o7 (lf Me) (lf LD)) (nd T9 (lf o8) (lf (qs [(vs ah 2848)])))) (nd S7 (nd o8 (lf HL) (lf o7)) (nd (qg wM oP PC) (lf o7) (lf Hl)))))) (nd o7 (nd o92 (nd (qg f13 nB nB) (nd (qt aP [(vs aM 570),(vr 282),(vb bZ),vn]) (nd (qg f43 mv mv) (lf o7) (lf (qs [(vs ah 2447),(vs bq 2448)]))) (nd o38 (lf (qc pT 2093 pT 2094 aa 2095 842 0 0 0 0 1306 false 181 1307 vn vn vn 2096 842 aa 2097)) (lf HO))) (nd (qt bt [(vb bA),(vr 408)]) (nd Sm (lf (qg OM r8 r8)) (lf (qg t5 kb Mu))) (nd (qs [(vs eW 1537),(vs Wa 1538),(vs nA 1539),(vs o0 1540)]) (lf o7) (lf o8)))) (nd (qt aP [(vs aQ 490),(vr 219),(vb cq),(vb ci)]) (nd (qt c70 [(vr 345),(vr 345),(vr 345)]) (nd (qc l3 1002 l3 1003 aa 1004 208 0 0 0 0 602 false 181 603 vn vn vn 1005 208 aa 1006) (lf o7) (lf o7)) (nd (qg f87 rj rj) (lf Lm) (lf (qs [(vs sq 2822)])))) (nd o7 (nd XE (lf Iu) (lf Gu)) (nd (qs [(vs ah 1617),(vs nA 1618),(vs wA 1619)]) (lf o8) (lf I2))))) (nd o7 (nd (SE P) (nd o8 (nd o8 (lf o7) (lf HQ)) (nd RX (lf (qs [(vs ah 2145)])) (lf o7))) (nd o7 (nd (qs [(vs ah 1169),(vs pE 1170),(vs il 1171),(vs iy 1172),(vs dd 1173),(vs wa 1174)]) (lf o8) (lf o8)) (nd RZ (lf (qg Qb sP sP)) (lf (qc r7 2942 r7 2943 aa 2944 1131 0 0 0 0 1978 false 181 1979 vn vn vn 2945 1131 aa 2946))))) (nd o7 (nd (qs [(vs ah 711),(vs EC 712)]) (nd (qs [(vs il 1050),(vs iy 1051),(vs (sx [99,111,109,109,111,110]) 1052)]) (lf o7) (lf o7)) (nd Qm (lf o7) (lf (qg wm eS RE)))) (nd o7 (nd o7 (lf o8) (lf (qs [(vs ah 2709),(vs xd 2710)]))) (nd I5 (lf Jc) (lf JH))))))))) (nd o6 (nd (⟨(vt bm),none,.plain,⟨[(some (vr 9)),(some (vr 3)),(some (vr 3)),none,(some (vs D5 164)),none,(some (vr 0))]⟩⟩) (nd o7 (nd (qg f4 mx mx) (nd (qs [(vs ah 262),(vs Fw 263),(vs bx 264)]) (nd Sk (nd TT (nd Vk (nd JS (lf (qg z1 wI wI)) nil) (lf (qg D3 BZ Oi))) (nd o8 (lf o7) (lf o8))) (nd (UJ P) (nd o7 (lf Gx) (lf Lb)) (nd Oc (lf GG) (lf o7)))) (nd (Qv P) (nd (qs [(vs rc 627)]) (nd o7 (lf (⟨(vt bm),none,.plain,⟨[(some (vr 1089)),(some (vr 3)),(some (vr 1086)),none,(some (vs ej 1726)),none,(some (vr 0))]⟩⟩)) (lf Jb)) (nd (qg f83 sf sf) (lf o8) (lf (qs [(vs ah 2792),(vs bq 2793)])))) (nd Sh (nd o8 (lf o7) (lf o7)) (nd Va (lf o7) (lf o7))))) (nd o7 (nd o7 (nd o7 (nd o7 (lf Hs) (lf o8)) (nd o7 (lf (qg xU ag Qh)) (lf JK))) (nd (qc lB 760 lB 761 aa 762 132 0 0 0 0 416 false 181 417 vn vn vn 763 132 aa 764) (nd (qv [(vi 256),(vi 4),(vr 682),(vi 265),(vi 4),(vr 689),(vi 270),(vi 4),(vr 696),(vi 275),(vi 4),(vr 703),(vi 280),(vi 4),(vr 710),(vi 284),(vi 4),(vr 717)]) (lf o7) (lf o7)) (nd o8 (lf G4) (lf o7)))) (nd (qd [(en P aE 504 (vs aK 417)),(en P bz 506 (vs lH 505)),(en P aC 508 (.int 71 507)),(en P ag 515 (vr 237)),(en P eS 524 (vr 244)),(en P oX 533 (vr 251)),(en P BX 541 (vr 258)),(en P A3 549 (vr 265)),(en P Az 557 (vr 272)),(en P Bn 564 (vr 279)),(en P aD 567 (vr 280))] 11) (nd (qv [(vi 118),(vi 4),(vr 362)]) (nd (qg Le ag Q4) (lf (qs [(vs ah 1821),(vs ck 1822),(vs FI 1823)])) (lf (qs [(vs ah 2525),(vs jd 2526),(vs bq 2527)]))) (nd o7 (lf G5) (lf (qt bt [(vb bA),(vr 1886)])))) (nd (qd [(en P aE 858 (vs eT 845)),(en P bz 860 (vs lj 859)),(en P aC 862 (.int 153 861)),(en P ag 871 (vr 493)),(en P aD 874 (vr 494))] 5) (nd TI (lf (qg wk pz Pq)) (lf (qg yO bS Mz))) (nd o8 (lf o7) (lf JE)))))) (nd o50 (nd (⟨(vt bm),none,.plain,⟨[(some (vr 81)),(some (vr 3)),(some (vr 78)),none,(some (vs cA 214)),none,(some (vr 0))]⟩⟩) (nd Ww (nd o8 (nd o8 (lf o7) (lf Jg)) (nd VU (lf HR) (lf o7))) (nd o7 (nd (qs [(vs bS 1108),(vs im 1109)]) (lf o8) (lf o8)) (nd Ue (lf (qg Oy rC rC)) (lf Ky)))) (nd o7 (nd (qs [(vs ah 651),(vs su 652)]) (nd (qs [(vs fo 992),(vs rS 993),(vs Sw 994)]) (lf o7) (lf o7)) (nd o8 (lf o7) (lf (qg rZ ck My)))) (nd o7 (nd (qt aP [(vs aQ 1208),(vr 721),(vb cq),(vb ci)]) (lf (qs [(vs ah 1983),(vs DY 1984),(vs Bs 1985)])) (lf (qs [(vs ah 2658),(vs uB 2659),(vs bx 2660)]))) (nd Xu (lf Jm) (lf o7))))) (nd o57 (nd (qc lD 421 lD 422 aa 423 59 0 0 0 0 176 false 181 177 vn vn vn 424 59 aa 425) (nd (qt c70 [(vr 303),(vr 303),(vr 303)]) (nd Th (lf (qg v9 ag Q3)) (lf o7)) (nd (qs [(vs eG 1352),(vs im 1353),(vs DB 1354),(vs Wx 1355)]) (lf (qt bt [(vb bA),(vr 1326)])) (lf o7))) (nd o7 (nd U7 (lf (qc pa 1931 pa 1932 aa 1933 744 0 0 0 0 1200 false 181 1201 vn vn vn 1934 744 aa 1935)) (lf GY)) (nd o7 (lf o8) (lf LA)))) (nd (qg AM eS NU) (nd (qt bt [(vb bA),(vr 366)]) (nd Wl (lf (qg wS Dl Qs)) (lf (qg yG eS Os))) (nd Xl (lf o7) (lf o8))) (nd (qt aP [(vs aM 877),(vr 496),(vb bZ),vn]) (nd o7 (lf HX) (lf Gq)) (nd o7 (lf (qd [(en P aE 2400 (vs aI 2391)),(en P bz 2402 (vs sh 2401)),(en P aC 2404 (.int 939 2403)),(en P ag 2412 (vr 1533)),(en P BZ 2420 (vr 1540)),(en P gj 2428 (vr 1547)),(en P Dk 2436 (vr 1554)),(en P wu 2443 (vr 1561)),(en P C5 2451 (vr 1568)),(en P ya 2458 (vr 1575)),(en P Ec 2465 (vr 1582)),(en P Dd 2473 (vr 1589)),(en P wg 2480 (vr 1596)),(en P B0 2488 (vr 1603)),(en P jd 2497 (vr 1610)),(en P BE 2505 (vr 1617)),(en P vY 2513 (vr 1624)),(en P xf 2521 (vr 1631)),(en P Dw 2530 (vr 1638)),(en P BF 2539 (vr 1645)),(en P eS 2547 (vr 1652)),(en P Cq 2555 (vr 1659)),(en P CH 2563 (vr 1666)),(en P za 2571 (vr 1673)),(en P AD 2579 (vr 1680)),(en P Dj 2587 (vr 1687)),(en P kb 2595 (vr 1694)),(en P Eu 2603 (vr 1701)),(en P Eo 2611 (vr 1708)),(en P Ea 2620 (vr 1715)),(en P CZ 2630 (vr 1722)),(en P uB 2638 (vr 1729)),(en P DS 2646 (vr 1736)),(en P Cj 2654 (vr 1743)),(en P An 2663 (vr 1750)),(en P Bt 2673 (vr 1757)),(en P bS 2681 (vr 1764)),(en P BP 2689 (vr 1771)),(en P AK 2697 (vr 1778)),(en P xd 2705 (vr 1785)),(en P Ct 2713 (vr 1792)),(en P D1 2722 (vr 1799)),(en P vd 2731 (vr 1806)),(en P Dm 2739 (vr 1813)),(en P B5 2747 (vr 1820)),(en P CQ 2755 (vr 1827)),(en P DG 2764 (vr 1834)),(en P gQ 2772 (vr 1841)),(en P DO 2780 (vr 1848)),(en P Du 2788 (vr 1855)),(en P C8 2796 (vr 1862)),(en P BA 2805 (vr 1869)),(en P ck 2813 (vr 1876)),(en P CB 2821 (vr 1883)),(en P aD 2823 (vr 1884))] 55)) (lf o7))))))) (nd o26 (nd (qc kR 218 kR 219 aa 220 12 0 0 0 0 40 false 181 41 vn vn vn 221 12 aa 222) (nd (qt c70 [(vr 73),(vr 73),(vr 73)]) (nd (qc l5 357 l5 358 aa 359 41 0 0 0 0 136 false 181 137 vn vn vn 360 41 aa 361) (nd o7 (nd o7 (lf HD) (lf K1)) (nd (qs [(vs xt 1295),(vs im 1296),(vs dd 1297),(vs Bs 1298)]) (lf o8) (lf (qs [(vs ah 2726),(vs Nx 2727),(vs bq 2728)])))) (nd (qd [(en P aE 733 (vs aK 417)),(en P bz 735 (vs l6 734)),(en P aC 737 (.int 126 736)),(en P ag 746 (vr 405)),(en P aD 750 (vr 406))] 5) (nd o8 (lf (qs [(vs (sx [102,114,97,109,101,115]) 1875),(vs (sx [108,101,120,101,114]) 1876),(vs sq 1877)])) (lf o7)) (nd (qc qp 1501 qp 1502 aa 1503 448 0 0 0 0 904 false 181 905 vn vn vn 1504 448 aa 1505) (lf o7) (lf (qg C7 Ax Ri))))) (nd (ob (vt bm) none (.dict ⟨[(en P ah 461 (vr 201)),(en P pW 462 (vs wg 460))]⟩ 2)) (nd o38 (nd o8 (lf DU) (lf Ke)) (nd Xa (lf (qs [(vs ah 2160),(vs gQ 2161)])) (lf o7))) (nd U2 (nd (qs [(vs ah 1192),(vs pE 1193),(vs il 1194),(vs iy 1195),(vs dd 1196),(vs wa 1197)]) (lf o8) (lf o8)) (nd V0 (lf (qg MK tw tw)) (lf (qg A6 Dq Pk)))))) (nd (qg Xh ag QC) (nd (qg f15 m5 m5) (nd (qg AB ag Q5) (nd (qg f45 mS mS) (lf o7) (lf (qs [(vs ah 2462)]))) (nd (VL P) (lf Kn) (lf Io))) (nd Wi (nd Ur (lf (qg Rs sB sB)) (lf (qg sZ Eo Pi))) (nd (qs [(vs nA 1554)]) (lf o7) (lf o8)))) (nd o7 (nd Uf (nd (qt c70 [(vr 615),(vr 615),(vr 615)]) (lf o7) (lf o7)) (nd (qg f89 rI rI) (lf Hr) (lf o7))) (nd o7 (nd Ss (lf (qt c70 [(vr 1255),(vr 1255),(vr 1255)])) (lf J9)) (nd (qs [(vs ah 1634),(vs jR 1635),(vs nA 1636),(vs eG 1637)]) (lf o8) (lf (qg Nk vA vA))))))) (nd o38 (nd (qs [(vs bx 295),(vs Fw 296)]) (nd (qs [(vs dY 389),(vs dF 390),(vs bx 391),(vs bq 392),(vs (sx [105,115,95,103,111,111,100]) 393)]) (nd W0 (nd (qs [(vs bS 923),(vs Na 924),(vs DB 925),(vs wa 926),(vs (sx [104,97,108,102]) 927)]) (lf o8) (lf o7)) (nd Wb (lf o7) (lf (qg yE B5 Nb)))) (nd (qt aP [(vs aM 753),(vr 408),(vb bZ),vn]) (nd o7 (lf (qs [(vs rc 1908),(vs dF 1909)])) (lf (qs [(vs ah 2591),(vs su 2592)]))) (nd o7 (lf Ma) (lf HV)))) (nd (Vv P) (nd (qt aP [(vs aQ 659),(vr 345),(vb cq),(vb ci)]) (nd o7 (lf o8) (lf o8)) (nd (qs [(vs eG 1408),(vs bx 1409),(vs dd 1410),(vs zw 1411)]) (lf (qg CF Do QJ)) (lf Ih))) (nd o8 (nd (qg f70 rV rV) (lf o7) (lf o7)) (nd o7 (lf HC) (lf o7))))) (nd o8 (nd Ub (nd (⟨(vt bm),none,.plain,⟨[(some (vr 313)),(some (vr 3)),(some (vr 310)),none,(some (vs aK 417)),none,(some (vr 0))]⟩⟩) (nd UW (lf (qt c70 [(vr 1079),(vr 1079),(vr 1079)])) (lf (qg xc wg RG))) (nd o7 (lf o7) (lf o8))) (nd o8 (nd o7 (lf IR) (lf GK)) (nd (qg NN sL sL) (lf (qs [(vs iG 2314),(vs dY 2315),(vs nL 2316),(vs gQ 2317)])) (lf o7)))) (nd Xf (nd o7 (nd o7 (lf KU) (lf HW)) (nd WM (lf o8) (lf (qs [(vs ah 2862),(vs eW 2863)])))) (nd VF (nd o8 (lf (⟨(vt bm),none,.plain,⟨[(some (vr 1273)),(some (vr 3)),(some (vr 1270)),none,(some (vs bf 2035)),none,(some (vr 0))]⟩⟩)) (lf o7)) (nd (qg xm CW PT) (lf o7) (lf o8)))))))) (nd (⟨(vt bm),none,.plain,⟨[(some (vr 13)),(some (vr 3)),(some (vr 3)),none,(some (vs D5 164)),none,(some (vr 0))]⟩⟩) (nd o7 (nd o38 (nd o70 (nd o38 (nd o7 (nd o7 (lf (qs [(vs ah 1675),(vs Gf 1676),(vs jR 1677),(vs bS 1678)])) (lf o8)) (nd TU (lf (qg wz CA Q8)) (lf JJ))) (nd (qt c70 [(vr 387),(vr 387),(vr 387)]) (nd (qg f65 rN rN) (lf o7) (lf o7)) (nd o38 (lf (qt bt [(vb bA),(vr 1410)])) (lf o7)))) (nd Wp (nd (qt aP [(vs aM 631),(vr 324),(vb bZ),vn]) (nd (qg f49 nK nK) (lf (qs [(vs ah 1785),(vs eW 1786),(vs sq 1787),(vs fo 1788),(vs OJ 1789)])) (lf (qs [(vs ah 2492),(vs PY 2493),(vs wa 2494)]))) (nd o8 (lf K5) (lf K0))) (nd (qt bt [(vb bA),(vr 450)]) (nd Vr (lf (qg w9 qx Q6)) (lf (qg yn DS Oh))) (nd (qs [(vs nA 1585),(vs Om 1586),(vs Gf 1587)]) (lf o7) (lf o7))))) (nd o7 (nd o7 (nd o7 (nd o7 (lf (qt bt [(vb bA),(vr 1058)])) (lf IM)) (nd (qg B9 ag Q9) (lf o8) (lf (qs [(vs ah 2759),(vs vd 2760),(vs bq 2761)])))) (nd (qs [(vs ah 773),(vs bS 774)]) (nd o8 (lf o7) (lf o7)) (nd Tw (lf o7) (lf (qg DX CV Ol))))) (nd (⟨(vt bm),none,.plain,⟨[(some (vr 229)),(some (vr 3)),(some (vr 226)),none,(some (vs aK 417)),none,(some (vr 0))]⟩⟩) (nd o8 (nd (Uh P) (lf LN) (lf Ls)) (nd o7 (lf (qs [(vs ah 2193),(vs dF 2194)])) (lf o7))) (nd (⟨(vt bm),none,.plain,⟨[(some (vr 485)),(some (vr 3)),(some (vr 482)),none,(some (vs eT 845)),none,(some (vr 0))]⟩⟩) (nd (qs [(vs fo 1240),(vs rS 1241),(vs Ul 1242),(vs pE 1243),(vs UF 1244),(vs VI 1245),(vs dd 1246)]) (lf (Gv P)) (lf o8)) (nd Su (lf (qg Pb tW tW)) (lf IX)))))) (nd (qt aP [(vs aM 240),(vr 53),(vb bZ),vn]) (nd o7 (nd (qt c70 [(vr 149),(vr 149),(vr 149)]) (nd Vs (nd SA (lf (qg xI AW Rw)) (lf o7)) (nd (qs [(vs eG 1311),(vs DB 1312)]) (lf (qt bt [(vb bA),(vr 1298)])) (lf o7))) (nd (qs [(vs EC 747),(vs Nx 748),(vs zj 749)]) (nd UA (lf KH) (lf KM)) (nd (qt aP [(vs aQ 1527),(vr 917),(vb cq),(vb ci)]) (lf o8) (lf (qs [(vs ah 2895),(vs Vc 2896)]))))) (nd (qg Ar ag OA) (nd Uw (nd Vd (lf (qg wY C1 Nf)) (lf (qg yf vY Ow))) (nd SP (lf o7) (lf o8))) (nd (qg f33 oE oE) (nd o7 (lf Ix) (lf Kx)) (nd o7 (lf (qs [(vs iG 2355),(vs dY 2356),(vs nL 2357)])) (lf Js))))) (nd (qv [(vi 36),(vi 4),(vr 126)]) (nd (qs [(vs ah 434),(vs pW 435)]) (nd (qd [(en P aE 614 (vs aK 417)),(en P bz 616 (vs lS 615)),(en P aC 618 (.int 107 617)),(en P ag 626 (vr 321)),(en P aD 628 (vr 322))] 5) (nd (qs [(vs rS 964)]) (lf (HZ P)) (lf o7)) (nd VW (lf o7) (lf (qg tN DO NX)))) (nd (qv [(vi 138),(vi 4),(vr 446)]) (nd o7 (lf (qs [(vs ah 1944),(vs Wd 1945),(vs fo 1946),(vs im 1947),(vs CD 1948),(vs sq 1949)])) (lf (qs [(vs ah 2624),(vs kb 2625),(vs bx 2626),(vs rc 2627)]))) (nd o7 (lf Il) (lf (qt bt [(vb bA),(vr 1970)]))))) (nd o8 (nd o7 (nd o7 (lf o8) (lf o8)) (nd o8 (lf (qg CX C2 QP)) (lf IZ))) (nd o8 (nd (qg f74 tq tq) (lf (qd [(en P aE 2052 (vs bf 2035)),(en P bz 2054 (vs oV 2053)),(en P aC 2056 (.int 829 2055)),(en P ag 2064 (vr 1281)),(en P CA 2071 (vr 1288)),(en P De 2078 (vr 1295)),(en P aD 2083 (vr 1296))] 7)) (lf o7)) (nd o7 (lf (⟨(vt bm),none,.plain,⟨[(some (vr 1525)),(some (vr 3)),(some (vr 1522)),none,(some (vs aI 2391)),none,(some (vr 0))]⟩⟩)) (lf (qg NW uJ uJ)))))))) (nd o30 (nd (qs [(vs ah 231),(vs eG 232),(vs WQ 233)]) (nd (qd [(en P aE 281 (vs cA 214)),(en P bz 283 (vs lO 282)),(en P aC 285 (.int 23 284)),(en P ag 294 (vr 89)),(en P aD 297 (vr 90))] 5) (nd (qs [(vs ah 370),(vs dF 371),(vs bx 372),(vs ck 373)]) (nd (qg LQ Az MG) (nd (qg f41 nE nE) (lf o7) (lf (qs [(vs ah 2432),(vs bq 2433)]))) (nd Wh (lf KD) (lf IT))) (nd (⟨(vt bm),none,.plain,⟨[(some (vr 397)),(some (vr 3)),(some (vr 394)),none,(some (vs aK 417)),none,(some (vr 0))]⟩⟩) (nd Se (lf (qt aP [(vs aM 1881),(vr 1164),(vb bZ),vn])) (lf (qg sX AD QX))) (nd (qs [(vs ah 1514),(vs eG 1515),(vs bq 1516),(vs jR 1517),(vs wA 1518)]) (lf o7) (lf o8)))) (nd o7 (nd (qc kT 638 kT 639 aa 640 111 0 0 0 0 332 false 181 333 vn vn vn 641 111 aa 642) (nd WI (lf o7) (lf o7)) (nd (qg f85 tB tB) (lf I3) (lf o7))) (nd (qg f32 oj oj) (nd Sz (lf Iz) (lf LZ)) (nd o7 (lf o8) (lf (JF P)))))) (nd (XD P) (nd o38 (nd (Ws P) (nd o8 (lf o7) (lf LM)) (nd (qt c70 [(vr 811),(vr 811),(vr 811)]) (lf LB) (lf o7))) (nd (qt aP [(vs aQ 780),(vr 429),(vb cq),(vb ci)]) (nd (qs [(vs ah 1148),(vs Fm 1149),(vs pE 1150)]) (lf o38) (lf o8)) (nd XB (lf (qg O0 rT rT)) (lf H8)))) (nd o7 (nd Vg (nd (qs [(vs SS 1034),(vs OZ 1035)]) (lf o7) (lf o7)) (nd o8 (lf o7) (lf (qg wB ag O4)))) (nd (qs [(vs zw 872),(vs Cz 873)]) (nd o7 (lf o8) (lf (qs [(vs ah 2693),(vs bq 2694)]))) (nd HA (lf Kv) (lf o8)))))) (nd (qc lA 249 lA 250 aa 251 17 0 0 0 0 60 false 181 61 vn vn vn 252 17 aa 253) (nd (qt bt [(vb bA),(vr 92)]) (nd W7 (nd (qt bt [(vb bA),(vr 282)]) (nd Vm (lf JO) (lf (qg Am C5 MX))) (nd o7 (lf o7) (lf o8))) (nd o38 (nd o7 (lf LL) (lf Lw)) (nd (qg PV q9 q9) (lf (qs [(vs iG 2271),(vs dY 2272),(vs dF 2273),(vs nL 2274),(vs bx 2275),(vs bq 2276)])) (lf o7)))) (nd (qt c70 [(vr 219),(vr 219),(vr 219)]) (nd o7 (nd o7 (lf HU) (lf Ku)) (nd WT (lf o8) (lf IH))) (nd Tu (nd o8 (lf o7) (lf o7)) (nd (qg wo Bm QB) (lf o7) (lf o7))))) (nd Xi (nd (qt aP [(vs aQ 441),(vr 189),(vb cq),(vb ci)]) (nd o7 (nd o7 (lf (qd [(en P aE 1776 (vs ej 1726)),(en P bz 1778 (vs ph 1777)),(en P aC 1780 (.int 619 1779)),(en P ag 1792 (vr 1098)),(en P bx 1799 (vr 1105)),(en P C1 1808 (vr 1112)),(en P xE 1817 (vr 1119)),(en P Cf 1826 (vr 1126)),(en P Bg 1836 (vr 1133)),(en P Dl 1845 (vr 1140)),(en P By 1854 (vr 1147)),(en P pz 1862 (vr 1154)),(en P Cm 1874 (vr 1161)),(en P aD 1878 (vr 1162))] 14)) (lf o8)) (nd o7 (lf (qg wN ag QD)) (lf Ll))) (nd VA (nd (qg Hv Df OX) (lf o7) (lf o7)) (nd o8 (lf Kc) (lf Kk)))) (nd (qs [(vs ah 537),(vs bS 538)]) (nd (qg Mg ag Pl) (nd (qg f56 oD oD) (lf (qs [(vs ah 1858),(vs oP 1859)])) (lf (qs [(vs ah 2559),(vs eS 2560)]))) (nd O6 (lf Lj) (lf Gz))) (nd (qs [(vs bS 892)]) (nd WJ (lf o7) (lf (qg y8 Ct NV))) (nd o8 (lf o7) (lf o7)))))))))))
def T0 (P:Params):BT:=zF 15 (fun i a=>if i = 2 then o2 else if i = 3 then (o3 P) else if i = 12 then o8 else a) 0 1 (T6 P)
def S0 (w:World) (os:OsState):SharedT:=⟨T0 w.params,15,{},⟨[]⟩,{},187,os⟩
def T2 (P:Params):BT:=zF 641 (fun i a=>if i = 3 then (qd [(en P s0 165 (vs bb 1056)),(en P s2 166 vn),(en P s3 167 vn),(en P s4 168 (vb Ek)),(en P s5 169 vn),(en P At 170 (vr 6)),(en P D7 171 (vr 4)),(en P BQ 173 (vs aa 172)),(en P BL 174 vn),(en P ni 193 (vr 21)),(en P oH 201 (vr 26)),(en P ny 207 (vr 31)),(en P mx 213 (vr 36)),(en P kR 246 (vr 53)),(en P lA 273 (vr 73)),(en P lO 300 (vr 92)),(en P lc 325 (vr 111)),(en P la 354 (vr 130)),(en P l5 383 (vr 149)),(en P nB 396 (vr 158)),(en P nU 406 (vr 165)),(en P m5 416 (vr 172)),(en P lD 447 (vr 189)),(en P AG 453 (vr 195)),(en P AL 459 (vr 198)),(en P Dx 465 (vr 201)),(en P kX 496 (vr 219)),(en P lH 574 (vr 282)),(en P lW 606 (vr 303)),(en P lS 635 (vr 324)),(en P kT 665 (vr 345)),(en P l8 695 (vr 366)),(en P lX 725 (vr 387)),(en P l6 757 (vr 408)),(en P lB 786 (vr 429)),(en P lh 815 (vr 450)),(en P on 821 (vr 459)),(en P oj 827 (vr 464)),(en P oE 837 (vr 472)),(en P gj 844 (vr 479)),(en P Ed 850 (.int 65536 849)),(en P lj 881 (vr 496)),(en P mJ 888 (vr 507)),(en P mD 895 (vr 514)),(en P nQ 902 (vr 521)),(en P nE 909 (vr 528)),(en P mu 919 (vr 535)),(en P mv 930 (vr 542)),(en P nC 940 (vr 549)),(en P mS 948 (vr 556)),(en P mC 960 (vr 563)),(en P oh 967 (vr 570)),(en P my 974 (vr 577)),(en P nK 981 (vr 584)),(en P n5 988 (vr 591)),(en P ng 997 (vr 598)),(en P l3 1030 (vr 615)),(en P nu 1038 (vr 626)),(en P m4 1046 (vr 633)),(en P oD 1055 (vr 640)),(en P AQ 1059 (vs eM 1058))] 61) else if i = 12 then Ko else a) 0 1 (T6 P)
def S2 (w:World) (os:OsState):SharedT:=⟨T2 w.params,641,{},⟨[]⟩,{},1060,os⟩
def T3 (P:Params):BT:=zF 642 (fun i a=>if i = 3 then (qd [(en P s0 165 (vs bb 1056)),(en P s2 166 vn),(en P s3 167 vn),(en P s4 168 (vb Ek)),(en P s5 169 vn),(en P At 170 (vr 6)),(en P D7 171 (vr 4)),(en P BQ 173 (vs aa 172)),(en P BL 174 vn),(en P ni 193 (vr 21)),(en P oH 201 (vr 26)),(en P ny 207 (vr 31)),(en P mx 213 (vr 36)),(en P kR 246 (vr 53)),(en P lA 273 (vr 73)),(en P lO 300 (vr 92)),(en P lc 325 (vr 111)),(en P la 354 (vr 130)),(en P l5 383 (vr 149)),(en P nB 396 (vr 158)),(en P nU 406 (vr 165)),(en P m5 416 (vr 172)),(en P lD 447 (vr 189)),(en P AG 453 (vr 195)),(en P AL 459 (vr 198)),(en P Dx 465 (vr 201)),(en P kX 496 (vr 219)),(en P lH 574 (vr 282)),(en P lW 606 (vr 303)),(en P lS 635 (vr 324)),(en P kT 665 (vr 345)),(en P l8 695 (vr 366)),(en P lX 725 (vr 387)),(en P l6 757 (vr 408)),(en P lB 786 (vr 429)),(en P lh 815 (vr 450)),(en P on 821 (vr 459)),(en P oj 827 (vr 464)),(en P oE 837 (vr 472)),(en P gj 844 (vr 479)),(en P Ed 850 (.int 65536 849)),(en P lj 881 (vr 496)),(en P mJ 888 (vr 507)),(en P mD 895 (vr 514)),(en P nQ 902 (vr 521)),(en P nE 909 (vr 528)),(en P mu 919 (vr 535)),(en P mv 930 (vr 542)),(en P nC 940 (vr 549)),(en P mS 948 (vr 556)),(en P mC 960 (vr 563)),(en P oh 967 (vr 570)),(en P my 974 (vr 577)),(en P nK 981 (vr 584)),(en P n5 988 (vr 591)),(en P ng 997 (vr 598)),(en P l3 1030 (vr 615)),(en P nu 1038 (vr 626)),(en P m4 1046 (vr 633)),(en P oD 1055 (vr 640)),(en P AQ 1059 (vs eM 1058)),(en P FY 1072 (vr 641))] 62) else if i = 12 then Ko else a) 0 1 (T6 P)
def S3 (w:World) (os:OsState):SharedT:=⟨T3 w.params,642,{},⟨[]⟩,{},1073,os⟩
def T5 (P:Params):BT:=zF 1520 (fun i a=>if i = 3 then (qd [(en P s0 165 (vs aI 2391)),(en P s2 166 vn),(en P s3 167 vn),(en P s4 168 (vb Ek)),(en P s5 169 vn),(en P At 170 (vr 6)),(en P D7 171 (vr 4)),(en P BQ 173 (vs aa 172)),(en P BL 174 vn),(en P ni 193 (vr 21)),(en P oH 201 (vr 26)),(en P ny 207 (vr 31)),(en P mx 213 (vr 36)),(en P kR 246 (vr 53)),(en P lA 273 (vr 73)),(en P lO 300 (vr 92)),(en P lc 325 (vr 111)),(en P la 354 (vr 130)),(en P l5 383 (vr 149)),(en P nB 396 (vr 158)),(en P nU 406 (vr 165)),(en P m5 416 (vr 172)),(en P lD 447 (vr 189)),(en P AG 453 (vr 195)),(en P AL 459 (vr 198)),(en P Dx 465 (vr 201)),(en P kX 496 (vr 219)),(en P lH 574 (vr 282)),(en P lW 606 (vr 303)),(en P lS 635 (vr 324)),(en P kT 665 (vr 345)),(en P l8 695 (vr 366)),(en P lX 725 (vr 387)),(en P l6 757 (vr 408)),(en P lB 786 (vr 429)),(en P lh 815 (vr 450)),(en P on 821 (vr 459)),(en P oj 827 (vr 464)),(en P oE 837 (vr 472)),(en P gj 844 (vr 479)),(en P Ed 850 (.int 65536 849)),(en P lj 881 (vr 496)),(en P mJ 888 (vr 507)),(en P mD 895 (vr 514)),(en P nQ 902 (vr 521)),(en P nE 909 (vr 528)),(en P mu 919 (vr 535)),(en P mv 930 (vr 542)),(en P nC 940 (vr 549)),(en P mS 948 (vr 556)),(en P mC 960 (vr 563)),(en P oh 967 (vr 570)),(en P my 974 (vr 577)),(en P nK 981 (vr 584)),(en P n5 988 (vr 591)),(en P ng 997 (vr 598)),(en P l3 1030 (vr 615)),(en P nu 1038 (vr 626)),(en P m4 1046 (vr 633)),(en P oD 1055 (vr 640)),(en P AQ 1059 (vs eM 1058)),(en P FY 1072 (vr 641)),(en P Pf 1074 (vs xO 1073)),(en P NR 1076 (.int 5 1075)),(en P OL 1078 (.int 21 1077)),(en P Px 1080 (.int 6 1079)),(en P NQ 1082 (.int 64 1081)),(en P rN 1092 (vr 648)),(en P rM 1104 (vr 655)),(en P sk 1112 (vr 662)),(en P tv 1120 (vr 669)),(en P pJ 1214 (vr 721)),(en P rV 1228 (vr 732)),(en P t8 1236 (vr 739)),(en P sG 1249 (vr 746)),(en P sj 1258 (vr 753)),(en P tq 1268 (vr 760)),(en P rl 1279 (vr 767)),(en P sO 1291 (vr 775)),(en P sF 1301 (vr 782)),(en P sS 1307 (vr 787)),(en P te 1315 (vr 794)),(en P qq 1348 (vr 811)),(en P tf 1358 (vr 822)),(en P rt 1369 (vr 829)),(en P sf 1380 (vr 836)),(en P sD 1388 (vr 843)),(en P tB 1394 (vr 848)),(en P sY 1404 (vr 855)),(en P rj 1414 (vr 862)),(en P rK 1422 (vr 869)),(en P rI 1434 (vr 876)),(en P q0 1444 (vr 883)),(en P se 1460 (vr 891)),(en P RM 1464 (vs rh 1463)),(en P OO 1466 (vs wv 1465)),(en P Oz 1468 (vs xl 1467)),(en P Ng 1470 (vs pD 1469)),(en P M3 1472 (vs w7 1471)),(en P MP 1474 (vs nc 1473)),(en P Pa 1476 (vs rD 1475)),(en P MW 1478 (vs xk 1477)),(en P MV 1482 (vr 892)),(en P QL 1484 (vs Cw 1483)),(en P Mv 1489 (vr 895)),(en P NP 1498 (vr 900)),(en P qp 1533 (vr 917)),(en P q9 1543 (vr 928)),(en P t9 1550 (vr 935)),(en P sr 1557 (vr 942)),(en P tE 1565 (vr 949)),(en P sL 1572 (vr 956)),(en P tQ 1581 (vr 963)),(en P sw 1590 (vr 970)),(en P pA 1725 (vr 1058)),(en P PM 1729 (.int 0 1728)),(en P Py 1731 (.int 1 1730)),(en P Rc 1733 (.int 2 1732)),(en P oO 1768 (vr 1079)),(en P ph 1885 (vr 1164)),(en P rL 1896 (vr 1175)),(en P Nz 1900 (.int 0 1899)),(en P Ps 1902 (.int 1 1901)),(en P Pp 1904 (.int 2 1903)),(en P r8 1912 (vr 1182)),(en P rz 1921 (vr 1189)),(en P sB 1928 (vr 1196)),(en P pa 2021 (vr 1255)),(en P mB 2034 (vr 1267)),(en P N6 2038 (.int 0 2037)),(en P RN 2040 (.int 1 2039)),(en P Nm 2042 (.int 10 2041)),(en P PA 2044 (.int 10 2043)),(en P oV 2090 (vr 1298)),(en P pT 2129 (vr 1326)),(en P qi 2232 (vr 1410)),(en P r0 2241 (vr 1421)),(en P rC 2254 (vr 1428)),(en P sV 2267 (vr 1435)),(en P sN 2279 (vr 1442)),(en P sd 2291 (vr 1449)),(en P rT 2301 (vr 1456)),(en P sv 2310 (vr 1463)),(en P sP 2320 (vr 1470)),(en P sQ 2332 (vr 1477)),(en P tw 2340 (vr 1484)),(en P tM 2351 (vr 1491)),(en P tC 2360 (vr 1498)),(en P rq 2371 (vr 1505)),(en P tW 2380 (vr 1512)),(en P rQ 2390 (vr 1519))] 151) else if i = 12 then (qv [(vi 1),(vi 0),(vr 20),(vi 5),(vi 0),(vr 25),(vi 7),(vi 0),(vr 30),(vi 9),(vi 0),(vr 35),(vi 12),(vi 0),(vr 42),(vi 17),(vi 0),(vr 62),(vi 23),(vi 0),(vr 81),(vi 29),(vi 0),(vr 100),(vi 34),(vi 0),(vr 119),(vi 41),(vi 0),(vr 138),(vi 49),(vi 0),(vr 157),(vi 52),(vi 0),(vr 164),(vi 55),(vi 0),(vr 171),(vi 59),(vi 0),(vr 178),(vi 66),(vi 0),(vr 208),(vi 71),(vi 0),(vr 229),(vi 101),(vi 0),(vr 292),(vi 107),(vi 0),(vr 313),(vi 111),(vi 0),(vr 334),(vi 116),(vi 0),(vr 355),(vi 121),(vi 0),(vr 376),(vi 126),(vi 0),(vr 397),(vi 132),(vi 0),(vr 418),(vi 136),(vi 0),(vr 439),(vi 140),(vi 0),(vr 458),(vi 142),(vi 0),(vr 463),(vi 144),(vi 0),(vr 471),(vi 149),(vi 0),(vr 478),(vi 153),(vi 0),(vr 485),(vi 158),(vi 0),(vr 506),(vi 160),(vi 0),(vr 513),(vi 162),(vi 0),(vr 520),(vi 164),(vi 0),(vr 527),(vi 166),(vi 0),(vr 534),(vi 173),(vi 0),(vr 541),(vi 178),(vi 0),(vr 548),(vi 183),(vi 0),(vr 555),(vi 185),(vi 0),(vr 562),(vi 194),(vi 0),(vr 569),(vi 198),(vi 0),(vr 576),(vi 200),(vi 0),(vr 583),(vi 202),(vi 0),(vr 590),(vi 204),(vi 0),(vr 597),(vi 208),(vi 0),(vr 604),(vi 213),(vi 0),(vr 625),(vi 218),(vi 0),(vr 632),(vi 220),(vi 0),(vr 639),(vi 233),(vi 0),(vr 647),(vi 241),(vi 0),(vr 654),(vi 248),(vi 0),(vr 661),(vi 250),(vi 0),(vr 668),(vi 254),(vi 0),(vr 675),(vi 290),(vi 0),(vr 731),(vi 299),(vi 0),(vr 738),(vi 302),(vi 0),(vr 745),(vi 310),(vi 0),(vr 752),(vi 313),(vi 0),(vr 759),(vi 323),(vi 0),(vr 766),(vi 329),(vi 0),(vr 774),(vi 336),(vi 0),(vr 781),(vi 341),(vi 0),(vr 786),(vi 343),(vi 0),(vr 793),(vi 346),(vi 0),(vr 800),(vi 352),(vi 0),(vr 821),(vi 357),(vi 0),(vr 828),(vi 365),(vi 0),(vr 835),(vi 371),(vi 0),(vr 842),(vi 376),(vi 0),(vr 847),(vi 379),(vi 0),(vr 854),(vi 388),(vi 0),(vr 861),(vi 399),(vi 0),(vr 868),(vi 405),(vi 0),(vr 875),(vi 417),(vi 0),(vr 882),(vi 424),(vi 0),(vr 890),(vi 448),(vi 0),(vr 906),(vi 455),(vi 0),(vr 927),(vi 461),(vi 0),(vr 934),(vi 463),(vi 0),(vr 941),(vi 465),(vi 0),(vr 948),(vi 474),(vi 0),(vr 955),(vi 476),(vi 0),(vr 962),(vi 481),(vi 0),(vr 969),(vi 486),(vi 0),(vr 976),(vi 611),(vi 0),(vr 1068),(vi 619),(vi 0),(vr 1089),(vi 711),(vi 0),(vr 1174),(vi 723),(vi 0),(vr 1181),(vi 726),(vi 0),(vr 1188),(vi 734),(vi 0),(vr 1195),(vi 744),(vi 0),(vr 1202),(vi 822),(vi 0),(vr 1266),(vi 829),(vi 0),(vr 1273),(vi 842),(vi 0),(vr 1308),(vi 851),(vi 0),(vr 1336),(vi 886),(vi 0),(vr 1420),(vi 888),(vi 0),(vr 1427),(vi 892),(vi 0),(vr 1434),(vi 896),(vi 0),(vr 1441),(vi 899),(vi 0),(vr 1448),(vi 902),(vi 0),(vr 1455),(vi 905),(vi 0),(vr 1462),(vi 907),(vi 0),(vr 1469),(vi 910),(vi 0),(vr 1476),(vi 916),(vi 0),(vr 1483),(vi 918),(vi 0),(vr 1490),(vi 924),(vi 0),(vr 1497),(vi 926),(vi 0),(vr 1504),(vi 931),(vi 0),(vr 1511),(vi 934),(vi 0),(vr 1518)]) else a) 0 1 (T6 P)
def S5 (w:World) (os:OsState):SharedT:=⟨T5 w.params,1520,{},⟨[]⟩,{},2393,os⟩
def S6 (w:World) (os:OsState):SharedT:=⟨T6 w.params,2053,{},⟨[]⟩,{},3054,os⟩
noncomputable def env:Env:={ scope:=TP.main.scope,locals:=mainNs,globals:=mainNs,cells:=[],code:=(vr 13),frame:=some 14 }
noncomputable def ann:Option Value:=(some (vr 6))
noncomputable abbrev cE (b:List Stmt):Code:=.body b env
abbrev fr:List Frame:=[topFrame ⟨0,0,0,0⟩]
noncomputable def g1:List Stmt:=(TP.main.body.drop 0).take 59
theorem p1 (w:World) (p:Program) (b:List Stmt) (os:OsState):segRunT treeTable p w 11 ann 1 5794 (S0 w os) ⟨Sem.wrap doneF deadEnd id id (execs g1 env),cE b,⟨0,0,0,0⟩,fr⟩ = some (.next,S2 w os,cE b,⟨226,0,226,15⟩):=by
 rw [PySem.W.Fast.te10110043849684766642,PySem.W.Fast.te14364793385576792824,PySem.W.Fast.te12563942051412417395]
 kernel_rfl
noncomputable def g3:List Stmt:=(TP.main.body.drop 59).take 1
theorem p3 (w:World):∀ (p:Program) (b:List Stmt) (os:OsState),segRunT treeTable p w 11 ann 1 71 (S2 w os) ⟨Sem.wrap doneF deadEnd id id (execs g3 env),cE b,⟨226,0,226,15⟩,fr⟩ = some (.next,S3 w os,cE b,⟨227,0,227,7⟩):=by
 rw [PySem.W.Fast.te10110043849684766642,PySem.W.Fast.te14364793385576792824,PySem.W.Fast.te12563942051412417395]
 revert w
 exact byRow2 "special-get-raises" (fun w p b os=>by kernel_rfl) (fun w p b os=>by kernel_rfl)
noncomputable def g4:List Stmt:=(TP.main.body.drop 60).take 94
theorem p4 (w:World) (p:Program) (b:List Stmt) (os:OsState):segRunT treeTable p w 11 ann 1 5647 (S3 w os) ⟨Sem.wrap doneF deadEnd id id (execs g4 env),cE b,⟨227,0,227,7⟩,fr⟩ = some (.next,S5 w os,cE b,⟨938,0,938,8⟩):=by
 rw [PySem.W.Fast.te10110043849684766642,PySem.W.Fast.te14364793385576792824,PySem.W.Fast.te12563942051412417395]
 kernel_rfl
noncomputable def g6:List Stmt:=(TP.main.body.drop 154).take 15
theorem p6 (w:World) (p:Program) (b:List Stmt) (os:OsState):segRunT treeTable p w 11 ann 1 2916 (S5 w os) ⟨Sem.wrap doneF deadEnd id id (execs g6 env),cE b,⟨938,0,938,8⟩,fr⟩ = some (.next,S6 w os,cE b,⟨1217,0,1237,36⟩):=by
 rw [PySem.W.Fast.te10110043849684766642,PySem.W.Fast.te14364793385576792824,PySem.W.Fast.te12563942051412417395]
 kernel_rfl
noncomputable abbrev s00 (w:World) (os:OsState):Shared:=⟨boot_heap w.params,⟨[]⟩,boot_drawn,boot_toks,os⟩
theorem pre (w:World) (os:OsState):topGo treeTable TP w 11 ann 12 (s00 w os) (topStub TP) = some ((S0 w os).abs,⟨denote treeTable (cE (behindTheImports TP)),cE (behindTheImports TP),⟨0,0,0,0⟩,fr⟩):=by
 kernel_rfl
theorem blk (w:World) (os:OsState):segRun treeTable TP w 11 ann 1 1 (S0 w os).abs (blockOf (behindTheImports TP) env (cE (behindTheImports TP)) ⟨0,0,0,0⟩ fr) = some (.next,(S0 w os).abs,cE (behindTheImports TP),⟨0,0,0,0⟩):=by
 kernel_rfl
theorem Ft:behindTheImports TP = g1++(g3++(g4++(g6++([])))):=by kernel_rfl
theorem fin (w:World) (os:OsState):topRun treeTable TP w 11 ann 2 (S6 w os).abs ⟨doneF .next,cE (behindTheImports TP),⟨1217,0,1237,36⟩,fr⟩ = some (S6 w os).abs:=by
 rw [PySem.W.Fast.te14082659384304107361,PySem.W.Fast.te14364793385576792824]
 kernel_rfl
theorem run (w:World) (os:OsState):topRun treeTable TP w 11 ann (12 + (1 + (5794 + (71 + (5647 + (2916 + (2))))))) (s00 w os) (topStub TP) = some (S6 w os).abs:=by
 refine go_top (pre w os) (piece_block (blk w os) ?_)
 have h:=(piece_app (segRun_of (p1 w TP (behindTheImports TP) os)) (piece_app (segRun_of (p3 w TP (behindTheImports TP) os)) (piece_app (segRun_of (p4 w TP (behindTheImports TP) os)) (piece_app (segRun_of (p6 w TP (behindTheImports TP) os)) (piece_nil (fin w os))))))
 rw [← Ft] at h
 exact h
noncomputable def loose:List Str:=[ni,oH,ny,mx,kR,lA,lO,lc,la,l5,nB,nU,m5,lD,AG,AL,Dx,kX,lH,lW,lS,kT,l8,lX,l6,lB,lh,on,oj,oE,gj,Ed,lj,mJ,mD,nQ,nE,mu,mv,nC,mS,mC,oh,my,nK,n5,ng,l3,nu,m4,oD,AQ,FY,Pf,NR,OL,Px,NQ,rN,rM,sk,tv,pJ,rV,t8,sG,sj,tq,rl,sO,sF,sS,te,qq,tf,rt,sf,sD,tB,sY,rj,rK,rI,q0,se,RM,OO,Oz,Ng,M3,MP,Pa,MW,MV,QL,Mv,NP,qp,q9,t9,sr,tE,sL,tQ,sw,pA,PM,Py,Rc,oO,ph,rL,Nz,Ps,Pp,r8,rz,sB,pa,mB,N6,RN,Nm,PA,oV,pT,qi,r0,rC,sV,sN,sd,rT,sv,sP,sQ,tw,tM,tC,rq,tW,rQ,sh,tY,r7,uP,uD,uC,vK,vA,uU,uJ,uE]
noncomputable def qT:Stmt:=sT 168 TP.main.body
noncomputable def q:Program:={ TP with main:={ TP.main with body:=[qT] } }
noncomputable def H1 (P:Params):Heap:=absHeap (T6 P) 2053 {}
end
end
section
set_option bootstrap.genMatcherCode false
theorem size (w:World):((boot_heap w.params).isNs mainGlobals && (⟨[]⟩:Array GenState).size == 0,(boot_heap w.params).objs.size,(boot_heap w.params).nsMap mainGlobals "__annotations__") = (true,11,ann):=by kernel_rfl
theorem opn:∀ w:World,(fencedOpening treeTable TP w 40000).map (fun s=>(s.heap,s.gens,s.drawn,s.toks)) = some (boot_heap w.params,Array.mk [],boot_drawn,boot_toks) :=
 boot_open (p:=TP) (by kernel_rfl) (by decide +kernel) (fun s=>by kernel_rfl)
theorem VX (w:World) (os:OsState):(staticsOk (importedModules TP.main.body) (boot_heap w.params) (H1 w.params) && namesBound TP (H1 w.params) && gensDone (S6 w os).abs && laidKept (boot_heap w.params) (H1 w.params)) = true:=by kernel_rfl
theorem VJ (w:World) (os:OsState):openSeen q loose (importedModules TP.main.body) (fun zz=>true) true (S6 w os).abs = openGood q loose:=by kernel_rfl
end
section
set_option bootstrap.genMatcherCode false
theorem Yh:LeftO TP q loose (fun zz=>true) (fun s=>s.heap) (fun w=>H1 w.params) 40000 :=
 LeftO.of_pieces (H₁:=H1) (ann:=ann) opn size run (by decide +kernel) (fun w=>funext fun os=>Prod.ext (VX w os) (Prod.ext (VJ w os) rfl))
noncomputable def uO:DefRec:=⟨match qT with | .FunctionDef n _ _ _ _ _ _ _ _ _=>n | _=>default,fa qT,fb qT,fs qT,match qT with | .FunctionDef _ _ _ _ _ _ _ _ _ p=>p | _=>default⟩
abbrev rw1:OpenLaw:=PySem.Challenge.rw_pq1045_01
abbrev BC (w:World) (h:Heap):Prop:=∀ b o,(H1 w.params).get? b = some o→h.get? b = some o
theorem mi:rw1.row.prog = TP:=VS
theorem WL:defOf q rw1.row.name = some (uO,[]):=by kernel_rfl
theorem hp_:TP.theDef rw1.row.name = some (uO.params,uO.body,uO.scope):=by kernel_rfl
theorem hk_:kwWritten? uO.params.kwonlyargs uO.params.kw_defaults = some []:=by kernel_rfl
theorem Y8 (s:Shared):RecFacts rw1.row.records s.heap:=recFacts_of (s:=s) (by rfl)
theorem ok1:chainsOk q = true:=by kernel_rfl
theorem ok2:opensWell TP = true:=by kernel_rfl
theorem ok3:(frees rw1.row.toRowW && rw1.row.within.isEmpty) = true:=by kernel_rfl
theorem hb_:TP.bare:=⟨by kernel_rfl,by kernel_rfl,by kernel_rfl,by kernel_rfl,by kernel_rfl,by decide +kernel⟩
theorem hw_:rw1.row.toRowW.promised:=by w_witness2
end
section
set_option bootstrap.genMatcherCode false
open PySem.W.Fast in
theorem zW:PySem.Challenge.rw_pq1045_01.wellSaid = true:=by
 unfold OpenLaw.wellSaid OpenRow.wellSaid OpenRow.partSaid looksOpen
 repeat' with_reducible apply look_both
 all_goals
  try rw [te11788848310118352699]
  try rw [te2368527892694137696]
  try rw [te9807087744658564304]
  try rw [te12862048085361865435]
  try rw [te8377067652309620493]
  try rw [PySem.W.R.allR_eq]
  try rw [te18344453789297297638]
  try rw [te3471404346716756564]
  try rw [sDec_eq]
  try rw [te14412699480532031325]
  try rw [te8326940854005059898]
  try rw [te5923862056798008813]
  try rw [te17691160309236699985]
  try rw [PySem.W.R.filterR_eq]
  try rw [te13343964577679436407]
  try rw [te17119622794617984870]
  try rw [te17868728402115742887]
  try rw [te9706382859710513879]
  try rw [PySem.W.S.strDecS_eq]
  try rw [te2357444279172408678]
  try rw [PySem.W.R.mapR_eq]
  try rw [te4857012375875476094]
  try rw [named_eq]
  try rw [te13582783067957832011]
  try rw [te5318747976498570220]
  try rw [te4579403493507170074]
  try rw [PySem.W.R.anyR_eq]
  try rw [te4274047373036748609]
  try rw [te12749700546528644094]
  try rw [te10501279942588096481]
  try rw [te8179353310426384613]
  try rw [te797321630700447069]
  try rw [te9572597257264208301]
  try rw [te9558739934217749035]
  try rw [te16286561074155671207]
  try rw [te6984425678791042302]
  decide +kernel
theorem EX (h:PySem.Challenge.rw_pq1045_01.row.wellSaid = true→PySem.Challenge.rw_pq1045_01.row.Holds):PySem.Challenge.rw_pq1045_01.Holds :=
 holds_law zW h
end
section
set_option bootstrap.genMatcherCode false
theorem hd (Nn:WalkO q loose (fun zz zz=>True) BC rw1.row.toRowW uO [] (fun f vs=>PySem.call f vs)):PySem.Challenge.rw_pq1045_01.Holds :=
 EX fun said=>holds_open (r:=rw1.row) (q:=q) (loose:=loose) (Xt:=fun zz=>true) (XP:=fun zz zz=>True) (Yf:=fun s=>s.heap) (Ya:=fun w=>H1 w.params) (YP:=BC) (N:=40000)
  (mi ▸ Yh) (fun w s e b o h=>by rw [show s.heap = H1 w.params from e]; exact h) (fun w h h' y k b o e=>k b o (y b o e)) (fun zz zz=>trivial) (fun zz zz zz zz zz=>trivial)
  WL (mi ▸ hp_) hk_ (fun s zz=>Y8 s) rfl said (by rw [mi,ok1,ok2,ok3]; rfl) (mi ▸ hb_) hw_ Nn
end
end Mine.Hd
namespace Mine
open Mine.Hd
section
set_option bootstrap.genMatcherCode false
noncomputable def KK (P:Params):Frag:=[(3,TO P),(2,TR P),(20,o20),(21,o21),(25,o25),(26,o26),(30,o30),(31,o31),(35,o35),(36,o36),(49,o49),(50,o50),(52,o52 P),(53,o53),(69,o69),(70,o70),(72,o72 P),(73,o73),(88,o88),(89,o89),(91,o91 P),(92,o92),(107,Si),(108,Sn),(110,XD P),(111,S4),(126,Xi),(127,Sq),(129,Sb P),(130,Sk),(145,WG),(146,Ww),(148,SH P),(149,SK),(157,Uz),(158,W7),(164,Xo),(165,RU),(171,UM),(172,SR),(185,U6),(186,Ub),(188,SE P),(189,Xq),(194,Qv P),(195,FL),(197,W4 P),(198,Wp),(200,Xz P),(201,PW),(215,WZ),(216,UO),(218,Vv P),(219,UQ),(236,Tz),(237,W2),(243,TG),(244,V3),(250,Xf),(251,UY),(257,Us),(258,TT),(264,V6),(265,UL),(271,VC),(272,Wm),(278,Vs),(279,Xd),(281,Wc P),(282,W0),(299,UG),(300,Xj),(302,Ws P),(303,Vy),(320,WC),(321,WS),(323,TF P),(324,UC),(341,UP),(342,Uw),(344,TY P),(345,Sc),(362,Uf),(363,W5),(365,SF P),(366,Vg),(383,Wt),(384,Uk),(386,UJ P),(387,U0),(404,WN),(405,XC),(407,SN P),(408,V2),(425,S8),(426,Wi),(428,Tt P),(429,SD),(446,VA),(447,US),(449,Uj P),(450,Sh),(458,U2),(459,VQ),(463,U9),(464,WP),(465,UU),(471,SO),(472,UX),(478,Tu),(479,Wk),(492,S7),(493,Vp),(495,Tn P),(496,T7),(506,VF),(507,So),(513,Sa),(514,Vk),(520,Wo),(521,W6),(527,SZ),(528,VB),(534,SA),(535,Xe),(541,VT),(542,Vm),(548,VD),(549,TN),(555,Xc),(556,SM),(562,Th),(563,To),(569,TA),(570,UW),(576,Vt),(577,We),(583,W8),(584,Wz),(590,WI),(591,Ug),(597,SY),(598,Vd),(611,SU),(612,WU),(614,Uh P),(615,Sg),(625,V4),(626,Wl),(632,Ui),(633,TH),(639,Vf),(640,Xv),(647,VZ),(648,Vn),(654,Se),(655,Xs),(661,Xw),(662,UA),(668,Sm),(669,W1),(682,Ur),(683,SJ),(689,TM),(690,U7),(696,WR),(697,TQ),(703,WE),(704,V1),(710,Vr),(711,Sl),(717,Tj),(718,Sz),(720,Uv P),(721,RY),(731,Ti),(732,XE),(738,TI),(739,Vw),(745,Xk),(746,Ss),(752,Xx),(753,Sd),(759,VV),(760,Wv),(766,WJ),(767,UZ),(768,Wn),(774,TU),(775,Vq),(781,Vo),(782,Wh),(786,VU),(787,UV),(793,T8),(794,Wb),(807,Un),(808,SI),(810,VL P),(811,VM),(821,UT),(822,VW),(828,RX),(829,Vh),(835,Xb),(836,VY),(842,Xa),(843,XA),(847,VE),(848,T4),(854,SP),(855,UK),(861,VK),(862,WT),(868,Uq),(869,WB),(875,Vx),(876,T9),(882,Xl),(883,Wy),(884,UH),(890,WM),(891,VO),(892,Qm),(893,O5),(894,O6),(895,Rq),(896,OW),(897,Rb),(898,Oc),(899,MS),(900,Qc),(913,Vj),(914,Ue),(916,SQ P),(917,VP),(927,Wg),(928,TZ),(934,Tw),(935,WY),(941,UB),(942,XB),(948,U1),(949,Vl),(955,T1),(956,RZ),(962,Va),(963,Vb),(969,TD),(970,V0),(978,Xu),(984,Ua),(985,Xm),(991,Tl),(992,Tf),(998,Su),(999,Xy),(1005,Iv),(1006,HA),(1012,Hx),(1013,Hy),(1019,GU),(1020,I5),(1026,JS),(1027,Hu),(1033,IJ),(1034,HD),(1040,Ka),(1041,Jq),(1047,KR),(1048,Hz),(1054,JO),(1055,K7),(1057,Lu P),(1058,Hs),(1075,IA),(1076,Gr),(1078,HZ P),(1079,JD),(1091,KN),(1097,II),(1098,DU),(1104,LH),(1105,J0),(1111,K2),(1112,Jv),(1118,HU),(1119,GS),(1125,Mm),(1126,LN),(1132,Me),(1133,Mi),(1139,I6),(1140,HM),(1146,KU),(1147,KA),(1153,Go),(1154,Gx),(1160,Lc),(1161,JV),(1163,Ir P),(1164,KW),(1174,KH),(1175,ID),(1181,LU),(1182,LL),(1188,Kh),(1189,Li),(1195,Jh),(1196,GC),(1209,Kb),(1210,IR),(1216,GF),(1217,Lh),(1223,KE),(1224,KZ),(1230,Iz),(1231,Hg),(1237,Hj),(1238,Ix),(1244,Iu),(1245,KO),(1251,IQ),(1252,G9),(1254,Gv P),(1255,Gm),(1260,HL),(1266,HX),(1267,CL),(1280,JA),(1281,It),(1287,Kj),(1288,JT),(1294,KD),(1295,Lz),(1297,LR P),(1298,HR),(1315,Mj),(1316,GD),(1322,Kn),(1323,IW),(1325,KG P),(1326,LB),(1343,Mb),(1344,Mh),(1350,K5),(1351,Lv),(1357,IU),(1358,I3),(1364,Ho),(1365,LF),(1371,Jf),(1372,Lm),(1378,G5),(1379,LW),(1385,LG),(1386,Hr),(1392,KY),(1393,Ly),(1399,JG),(1400,L0),(1406,Lj),(1407,GR),(1409,H9 P),(1410,GG),(1420,KQ),(1421,I7),(1427,Jz),(1428,GJ),(1434,Ma),(1435,Iy),(1441,Gn),(1442,G4),(1448,Ks),(1449,Im),(1455,Lk),(1456,HY),(1462,Il),(1463,Je),(1469,L9),(1470,Kc),(1476,I9),(1477,HH),(1483,Hk),(1484,Jp),(1490,Jm),(1491,GE),(1497,IB),(1498,HC),(1504,Kl),(1505,Jy),(1511,I4),(1512,Ha),(1518,Kv),(1519,Hc),(1532,Jc),(1533,Ig),(1539,Mc),(1540,IK),(1546,K1),(1547,Lq),(1553,LC),(1554,Jg),(1560,Hi),(1561,GX),(1567,Mq),(1568,G1),(1574,IM),(1575,Kt),(1581,Kw),(1582,LM),(1588,Hw),(1589,IC),(1595,IP),(1596,HQ),(1602,Jb),(1603,HF),(1609,Hm),(1610,Ke),(1616,GP),(1617,Lp),(1623,G8),(1624,Jn),(1630,Ku),(1631,Ik),(1637,JN),(1638,Ls),(1644,LD),(1645,JL),(1651,Jk),(1652,Ic),(1658,HW),(1659,IE),(1665,Ie),(1666,Lb),(1672,KB),(1673,Jj),(1679,Jt),(1680,Md),(1686,KM),(1687,Mn),(1693,GZ),(1694,Lw),(1700,HG),(1701,HP),(1707,Kp),(1708,K4),(1714,GY),(1715,Kz),(1721,Lx),(1722,GK),(1728,Kq),(1729,Hq),(1735,GI),(1736,Hp),(1742,LZ),(1743,LV),(1749,Jd),(1750,Kx),(1756,Gu),(1757,Lr),(1763,Mo),(1764,I8),(1770,J9),(1771,JC),(1777,Jl),(1778,Gq),(1784,GQ),(1785,KV),(1791,HT),(1792,KI),(1798,JJ),(1799,JQ),(1805,IS),(1806,IT),(1812,GL),(1813,Kg),(1819,Ml),(1820,HO),(1826,JK),(1827,Mf),(1833,HI),(1834,Io),(1840,Ht),(1841,Jx),(1847,IY),(1848,IF),(1854,Ll),(1855,Ji),(1861,Gy),(1862,K0),(1868,Jr),(1869,Jo),(1875,JZ),(1876,Ib),(1882,Ih),(1883,Lo),(1885,G6 P),(1886,IH),(1903,IL),(1904,IN),(1910,IZ),(1911,KP),(1917,JR),(1918,Gz),(1924,IV),(1925,Ju),(1931,HN),(1932,Kr),(1938,Ky),(1939,I1),(1945,Jw),(1946,HV),(1952,K8),(1953,Kd),(1959,He),(1960,JB),(1966,H8),(1967,Lg),(1969,Ld P),(1970,LA),(1982,Kk),(1988,K6),(1989,HE),(1995,Ia),(1996,GB),(1998,JF P),(1999,JI),(2005,Gp),(2006,Js),(2012,I2),(2013,GV),(2017,Iw),(2018,JE),(2022,IX),(2023,JW),(2027,Mk),(2028,Hl),(2032,Gl),(2033,JY),(2039,JX),(2040,Km),(2044,JH),(2045,Kf),(2051,KJ),(2052,Bp)]
theorem kk1 (P:Params):(KK P).map (fun p=>(T6 P).get p.1) = (KK P).map (fun p=>some p.2):=by kernel_rfl
theorem kk2 (P:Params):(KK P).map (fun p=>alive p.2) = (KK P).map (fun p=>some p.2):=by kernel_rfl
theorem kk3 (P:Params):(KK P).all (fun p=>Nat.blt p.1 2053) = true:=by kernel_rfl
theorem bp {α β:Type} {f g:α→β} {l:List α} {x:α} (e:l.map f = l.map g) (hx:x ∈ l):f x = g x:=List.map_inj_left.mp e x hx
theorem ky {a:Addr} {o:Obj}:∀ {l:List (Addr × Obj)},l.lookup a = some o→(a,o) ∈ l
 | [],e=>nomatch e
 | (c,d) :: r,e=>by
  rw [List.lookup_cons] at e
  cases q:a == c with
  | true=>rw [q] at e; cases e; rw [beq_iff_eq] at q; subst q; exact .head _
  | false=>rw [q] at e; exact .tail _ (ky e)
theorem Ja (w:World) (h:Heap) (b:∀ c o,(H1 w.params).get? c = some o→h.get? c = some o):(KK w.params).In h:=fun a o e=>by
 have hm:=ky e
 have g1:(T6 w.params).get a = some o:=bp (f:=fun p:Addr × Obj=>(T6 w.params).get p.1) (g:=fun p=>some p.2) (kk1 w.params) hm
 have g2:alive o = some o:=bp (f:=fun p:Addr × Obj=>alive p.2) (g:=fun p=>some p.2) (kk2 w.params) hm
 have g3:a < 2053:=by
  have:=List.all_eq_true.mp (kk3 w.params) _ hm
  exact Nat.le_of_ble_eq_true this
 refine b a o ?_
 show (absHeap (T6 w.params) 2053 {}).get? a = _
 rw [abs_get g3 g1,g2]
structure WW where
 w:World
 mg:Str→Option Value
 mb:Str→Option Value
 os:OsState
 drawn:Drawn
noncomputable abbrev BB (W:WW):Base:={ prog:=TP,w:=W.w,K:=KK W.w.params,p:=q,loose:=looseW q loose,mg:=W.mg,mb:=W.mb,nb:=2053,gens:=#[],drawn:=W.drawn,os:=W.os }
structure ClsOk (B:Base) (C fI:Addr) (flds:List Str):Prop where
 makes:makesIn B.K C = true
 ini:findIn B.K (.ref C) "__init__" = some (some (.ref fI))
 ityp:typeIn B.K (.ref fI) = some (.type "function")
 dict:hasDictIn B.K C = true
 get:plainGet B.K C "" = true
 set_:findIn B.K (.ref C) "__setattr__" = some (some (.builtin "object.__setattr__"))
 over:plainOver B.K C = true
 fld:∀ x ∈ flds,findIn B.K (.ref C) x = some none
 nd:flds.Nodup
 is:ClsIs B.K C
structure MethOk (B:Base) (C:Addr) (x:Str) (f:Addr):Prop where
 find:findIn B.K (.ref C) x = some (some (.ref f))
 fn:isFn B.K (.ref f) = true
noncomputable def N4 (K:Frag) (C:Addr) (flds:List Str):Bool:=flds.all fun x=>findIn K (.ref C) x == some none
theorem az {K:Frag} {C:Addr} {flds:List Str} (h:N4 K C flds = true):∀ x ∈ flds,findIn K (.ref C) x = some none:=fun x hx=>beq_iff_eq.mp (List.all_eq_true.mp h x hx)
noncomputable def LX (K:Frag) (f:Addr) (fd:FuncData):Bool:=codeIn K fd.code fd.qualname && fd.scope.kind == .function && !fd.scope.isCoroutine && !fd.scope.isGenerator
theorem FnOk.of {B:Base} {f:Addr} {fd:FuncData} {body:List Stmt} {o:Obj} (h1:B.K.lookup f = some o) (h2:o.data = .func fd) (h3:fd.body = .stmts body) (h4:LX B.K f fd = true) (h5:fd.globals = mainGlobals) (h6:fd.builtins = builtinsNs) (h7:fd.closure = []):FnOk B f fd body:=by
 simp only [LX,Bool.and_eq_true,Bool.not_eq_true',beq_iff_eq] at h4
 exact ⟨⟨o,h1,h2⟩,h3,h4.1.1.1,h4.1.1.2,h4.1.2,h4.2,h5,h6,h7⟩
variable {W:WW}
theorem wb:ClsOk (BB W) 219 216 ["number","text"]:=⟨by kernel_rfl,by kernel_rfl,by kernel_rfl,by kernel_rfl,by kernel_rfl,by kernel_rfl,by kernel_rfl,az (by kernel_rfl),by decide +kernel,⟨by kernel_rfl,by kernel_rfl,by kernel_rfl,by kernel_rfl,by kernel_rfl,by kernel_rfl⟩⟩
theorem lb:ClsOk (BB W) 282 237 ["rows","by_text"]:=⟨by kernel_rfl,by kernel_rfl,by kernel_rfl,by kernel_rfl,by kernel_rfl,by kernel_rfl,by kernel_rfl,az (by kernel_rfl),by decide +kernel,⟨by kernel_rfl,by kernel_rfl,by kernel_rfl,by kernel_rfl,by kernel_rfl,by kernel_rfl⟩⟩
theorem Ch:ClsOk (BB W) 303 300 ["car","cdr","mark"]:=⟨by kernel_rfl,by kernel_rfl,by kernel_rfl,by kernel_rfl,by kernel_rfl,by kernel_rfl,by kernel_rfl,az (by kernel_rfl),by decide +kernel,⟨by kernel_rfl,by kernel_rfl,by kernel_rfl,by kernel_rfl,by kernel_rfl,by kernel_rfl⟩⟩
theorem AO:ClsOk (BB W) 324 321 ["code"]:=⟨by kernel_rfl,by kernel_rfl,by kernel_rfl,by kernel_rfl,by kernel_rfl,by kernel_rfl,by kernel_rfl,az (by kernel_rfl),by decide +kernel,⟨by kernel_rfl,by kernel_rfl,by kernel_rfl,by kernel_rfl,by kernel_rfl,by kernel_rfl⟩⟩
theorem AU:ClsOk (BB W) 345 342 ["codes","mark"]:=⟨by kernel_rfl,by kernel_rfl,by kernel_rfl,by kernel_rfl,by kernel_rfl,by kernel_rfl,by kernel_rfl,az (by kernel_rfl),by decide +kernel,⟨by kernel_rfl,by kernel_rfl,by kernel_rfl,by kernel_rfl,by kernel_rfl,by kernel_rfl⟩⟩
theorem xC:ClsOk (BB W) 366 363 ["things","mark"]:=⟨by kernel_rfl,by kernel_rfl,by kernel_rfl,by kernel_rfl,by kernel_rfl,by kernel_rfl,by kernel_rfl,az (by kernel_rfl),by decide +kernel,⟨by kernel_rfl,by kernel_rfl,by kernel_rfl,by kernel_rfl,by kernel_rfl,by kernel_rfl⟩⟩
theorem vC:ClsOk (BB W) 429 426 ["number"]:=⟨by kernel_rfl,by kernel_rfl,by kernel_rfl,by kernel_rfl,by kernel_rfl,by kernel_rfl,by kernel_rfl,az (by kernel_rfl),by decide +kernel,⟨by kernel_rfl,by kernel_rfl,by kernel_rfl,by kernel_rfl,by kernel_rfl,by kernel_rfl⟩⟩
theorem vh:ClsOk (BB W) 811 808 ["top","bottom","is_exact"]:=⟨by kernel_rfl,by kernel_rfl,by kernel_rfl,by kernel_rfl,by kernel_rfl,by kernel_rfl,by kernel_rfl,az (by kernel_rfl),by decide +kernel,⟨by kernel_rfl,by kernel_rfl,by kernel_rfl,by kernel_rfl,by kernel_rfl,by kernel_rfl⟩⟩
theorem zd:ClsOk (BB W) 917 914 ["word","value","start","end"]:=⟨by kernel_rfl,by kernel_rfl,by kernel_rfl,by kernel_rfl,by kernel_rfl,by kernel_rfl,by kernel_rfl,az (by kernel_rfl),by decide +kernel,⟨by kernel_rfl,by kernel_rfl,by kernel_rfl,by kernel_rfl,by kernel_rfl,by kernel_rfl⟩⟩
theorem zA:ClsOk (BB W) 1058 985 ["text","precision","place","is_folded"]:=⟨by kernel_rfl,by kernel_rfl,by kernel_rfl,by kernel_rfl,by kernel_rfl,by kernel_rfl,by kernel_rfl,az (by kernel_rfl),by decide +kernel,⟨by kernel_rfl,by kernel_rfl,by kernel_rfl,by kernel_rfl,by kernel_rfl,by kernel_rfl⟩⟩
theorem zT:ClsOk (BB W) 1079 1076 ["word","start","things","state","tail"]:=⟨by kernel_rfl,by kernel_rfl,by kernel_rfl,by kernel_rfl,by kernel_rfl,by kernel_rfl,by kernel_rfl,az (by kernel_rfl),by decide +kernel,⟨by kernel_rfl,by kernel_rfl,by kernel_rfl,by kernel_rfl,by kernel_rfl,by kernel_rfl⟩⟩
theorem xF:ClsOk (BB W) 1164 1098 ["lexer","table","frames"]:=⟨by kernel_rfl,by kernel_rfl,by kernel_rfl,by kernel_rfl,by kernel_rfl,by kernel_rfl,by kernel_rfl,az (by kernel_rfl),by decide +kernel,⟨by kernel_rfl,by kernel_rfl,by kernel_rfl,by kernel_rfl,by kernel_rfl,by kernel_rfl⟩⟩
theorem u9:ClsOk (BB W) 1255 1210 ["is_written","precision","radix","limit","table","pieces","length","waiting"]:=⟨by kernel_rfl,by kernel_rfl,by kernel_rfl,by kernel_rfl,by kernel_rfl,by kernel_rfl,by kernel_rfl,az (by kernel_rfl),by decide +kernel,⟨by kernel_rfl,by kernel_rfl,by kernel_rfl,by kernel_rfl,by kernel_rfl,by kernel_rfl⟩⟩
theorem wq:ClsOk (BB W) 1298 1281 ["codes","place","is_open","is_input"]:=⟨by kernel_rfl,by kernel_rfl,by kernel_rfl,by kernel_rfl,by kernel_rfl,by kernel_rfl,by kernel_rfl,az (by kernel_rfl),by decide +kernel,⟨by kernel_rfl,by kernel_rfl,by kernel_rfl,by kernel_rfl,by kernel_rfl,by kernel_rfl⟩⟩
theorem un:ClsOk (BB W) 1326 1316 ["codes","is_open","is_input"]:=⟨by kernel_rfl,by kernel_rfl,by kernel_rfl,by kernel_rfl,by kernel_rfl,by kernel_rfl,by kernel_rfl,az (by kernel_rfl),by decide +kernel,⟨by kernel_rfl,by kernel_rfl,by kernel_rfl,by kernel_rfl,by kernel_rfl,by kernel_rfl⟩⟩
theorem pY:ClsOk (BB W) 1410 1344 ["rows","files","current_output","current_input"]:=⟨by kernel_rfl,by kernel_rfl,by kernel_rfl,by kernel_rfl,by kernel_rfl,by kernel_rfl,by kernel_rfl,az (by kernel_rfl),by decide +kernel,⟨by kernel_rfl,by kernel_rfl,by kernel_rfl,by kernel_rfl,by kernel_rfl,by kernel_rfl⟩⟩
theorem ly:ClsOk (BB W) 1886 1533 ["table"]:=⟨by kernel_rfl,by kernel_rfl,by kernel_rfl,by kernel_rfl,by kernel_rfl,by kernel_rfl,by kernel_rfl,az (by kernel_rfl),by decide +kernel,⟨by kernel_rfl,by kernel_rfl,by kernel_rfl,by kernel_rfl,by kernel_rfl,by kernel_rfl⟩⟩
theorem uI:ClsOk (BB W) 1999 1989 ["table","last","titles","ops","root","precision","patience","ports","tower"]:=⟨by kernel_rfl,by kernel_rfl,by kernel_rfl,by kernel_rfl,by kernel_rfl,by kernel_rfl,by kernel_rfl,az (by kernel_rfl),by decide +kernel,⟨by kernel_rfl,by kernel_rfl,by kernel_rfl,by kernel_rfl,by kernel_rfl,by kernel_rfl⟩⟩
theorem ua:MethOk (BB W) 282 "symbol" 244:=⟨by kernel_rfl,by kernel_rfl⟩
theorem Ey:MethOk (BB W) 1058 "skip" 992:=⟨by kernel_rfl,by kernel_rfl⟩
theorem DL:MethOk (BB W) 1058 "token" 1006:=⟨by kernel_rfl,by kernel_rfl⟩
theorem CI:MethOk (BB W) 1058 "found" 1013:=⟨by kernel_rfl,by kernel_rfl⟩
theorem yF:MethOk (BB W) 1058 "word_end" 1020:=⟨by kernel_rfl,by kernel_rfl⟩
theorem vN:MethOk (BB W) 1058 "word_token" 1027:=⟨by kernel_rfl,by kernel_rfl⟩
theorem wh:MethOk (BB W) 1058 "number_in" 1034:=⟨by kernel_rfl,by kernel_rfl⟩
theorem CU:MethOk (BB W) 1058 "sharp" 1041:=⟨by kernel_rfl,by kernel_rfl⟩
theorem vO:MethOk (BB W) 1058 "sign_token" 1048:=⟨by kernel_rfl,by kernel_rfl⟩
theorem Al:MethOk (BB W) 1058 "string" 1055:=⟨by kernel_rfl,by kernel_rfl⟩
theorem Ae:MethOk (BB W) 1164 "place" 1105:=⟨by kernel_rfl,by kernel_rfl⟩
theorem Db:MethOk (BB W) 1164 "read" 1112:=⟨by kernel_rfl,by kernel_rfl⟩
theorem Cu:MethOk (BB W) 1164 "last" 1119:=⟨by kernel_rfl,by kernel_rfl⟩
theorem Ah:MethOk (BB W) 1164 "opens" 1133:=⟨by kernel_rfl,by kernel_rfl⟩
theorem Ez:MethOk (BB W) 1164 "dot" 1140:=⟨by kernel_rfl,by kernel_rfl⟩
theorem zH:MethOk (BB W) 1164 "closed" 1147:=⟨by kernel_rfl,by kernel_rfl⟩
theorem Bk:MethOk (BB W) 1164 "atom" 1154:=⟨by kernel_rfl,by kernel_rfl⟩
theorem vQ:MethOk (BB W) 1164 "delivered" 1161:=⟨by kernel_rfl,by kernel_rfl⟩
theorem Aj:MethOk (BB W) 1255 "told" 1217:=⟨by kernel_rfl,by kernel_rfl⟩
theorem A5:MethOk (BB W) 1255 "put" 1224:=⟨by kernel_rfl,by kernel_rfl⟩
theorem zI:MethOk (BB W) 1255 "datum" 1231:=⟨by kernel_rfl,by kernel_rfl⟩
theorem Ak:MethOk (BB W) 1255 "pair" 1238:=⟨by kernel_rfl,by kernel_rfl⟩
theorem Af:MethOk (BB W) 1255 "tail" 1245:=⟨by kernel_rfl,by kernel_rfl⟩
theorem Ag:MethOk (BB W) 1255 "atom" 1252:=⟨by kernel_rfl,by kernel_rfl⟩
theorem vV:MethOk (BB W) 1298 "next_code" 1288:=⟨by kernel_rfl,by kernel_rfl⟩
theorem vR:MethOk (BB W) 1298 "rest_text" 1295:=⟨by kernel_rfl,by kernel_rfl⟩
theorem DQ:MethOk (BB W) 1326 "put" 1323:=⟨by kernel_rfl,by kernel_rfl⟩
theorem Ai:MethOk (BB W) 1410 "at" 1351:=⟨by kernel_rfl,by kernel_rfl⟩
theorem vU:MethOk (BB W) 1410 "opened" 1358:=⟨by kernel_rfl,by kernel_rfl⟩
theorem nV:MethOk (BB W) 1886 "unspecified" 1575:=⟨by kernel_rfl,by kernel_rfl⟩
theorem wi:MethOk (BB W) 1886 "eof" 1596:=⟨by kernel_rfl,by kernel_rfl⟩
theorem ud:MethOk (BB W) 1886 "is_eof" 1603:=⟨by kernel_rfl,by kernel_rfl⟩
theorem vS:MethOk (BB W) 1886 "pair" 1610:=⟨by kernel_rfl,by kernel_rfl⟩
theorem vT:MethOk (BB W) 1886 "char" 1673:=⟨by kernel_rfl,by kernel_rfl⟩
theorem rp:MethOk (BB W) 1886 "is_char" 1680:=⟨by kernel_rfl,by kernel_rfl⟩
theorem pH:MethOk (BB W) 1886 "char_code" 1687:=⟨by kernel_rfl,by kernel_rfl⟩
theorem uc:MethOk (BB W) 1886 "string" 1694:=⟨by kernel_rfl,by kernel_rfl⟩
theorem pi:MethOk (BB W) 1886 "is_string" 1701:=⟨by kernel_rfl,by kernel_rfl⟩
theorem kI:MethOk (BB W) 1886 "string_length" 1708:=⟨by kernel_rfl,by kernel_rfl⟩
theorem nJ:MethOk (BB W) 1886 "string_code" 1715:=⟨by kernel_rfl,by kernel_rfl⟩
theorem ub:MethOk (BB W) 1886 "vector" 1729:=⟨by kernel_rfl,by kernel_rfl⟩
theorem vP:MethOk (BB W) 1886 "port" 1841:=⟨by kernel_rfl,by kernel_rfl⟩
theorem ro:MethOk (BB W) 1886 "is_port" 1848:=⟨by kernel_rfl,by kernel_rfl⟩
theorem mO:MethOk (BB W) 1886 "port_number" 1855:=⟨by kernel_rfl,by kernel_rfl⟩
theorem vz:MethOk (BB W) 1886 "datum" 1876:=⟨by kernel_rfl,by kernel_rfl⟩
theorem oI:MethOk (BB W) 1886 "from_datum" 1883:=⟨by kernel_rfl,by kernel_rfl⟩
theorem y3:MethOk (BB W) 1999 "symbol" 1918:=⟨by kernel_rfl,by kernel_rfl⟩
theorem hY:FnOk (BB W) 1098 (fn j1 ag FR 3 [] (vr 1091) vn vn (vs ej 1726) none (vr 1097) vn 0) (fb j1):=.of (o:=DU) (by kernel_rfl) rfl rfl (by kernel_rfl) rfl rfl rfl
theorem py:FnOk (BB W) 1267 (fn zt mB mB 3 [] (vr 1260) vn vn (vs g9 1897) none (vr 1266) vn 0) (fb zt):=.of (o:=CL) (by kernel_rfl) rfl rfl (by kernel_rfl) rfl rfl rfl
theorem aV {x:Str} (h:(x == ("__debug__":Str)) = false) {v:Value} (g:nsIn (BB W).K mainGlobals x = some (some v)):GN (BB W) x v:=⟨h,.inl g⟩
theorem gv {x:Str} {v:Value} (h:(x == ("__debug__":Str)) = false) (g:nsIn (BB W).K mainGlobals x = some (some v)):GA (BB W) x (.val v):=⟨_,aV h g,fun F h=>bC⟩
theorem Ay:GA (BB W) "REACH" (.int 65536):=⟨(.int 65536 849),aV (by kernel_rfl) (by kernel_rfl),fun F h=>ax⟩
theorem ib:GA (BB W) "FIGURES_numtext" (.str eM.cps.toList):=⟨(vs eM 1058),aV (by kernel_rfl) (by kernel_rfl),fun F h=>aL⟩
theorem CC:GA (BB W) "MARKS" (.str xO.cps.toList):=⟨(vs xO 1073),aV (by kernel_rfl) (by kernel_rfl),fun F h=>aL⟩
theorem dw:GA (BB W) "MOST_EXPONENT_FIGURES" (.int 5):=⟨(.int 5 1075),aV (by kernel_rfl) (by kernel_rfl),fun F h=>ax⟩
theorem fB:GA (BB W) "MOST_BEFORE_POINT" (.int 21):=⟨(.int 21 1077),aV (by kernel_rfl) (by kernel_rfl),fun F h=>ax⟩
theorem cm:GA (BB W) "MOST_NOUGHTS_BEHIND_POINT" (.int 6):=⟨(.int 6 1079),aV (by kernel_rfl) (by kernel_rfl),fun F h=>ax⟩
theorem hH:GA (BB W) "FIGURES_AT_ONCE" (.int 64):=⟨(.int 64 1081),aV (by kernel_rfl) (by kernel_rfl),fun F h=>ax⟩
theorem zh:GA (BB W) "BLANKS" (.str rh.cps.toList):=⟨(vs rh 1463),aV (by kernel_rfl) (by kernel_rfl),fun F h=>aL⟩
theorem po:GA (BB W) "DELIMITERS" (.str wv.cps.toList):=⟨(vs wv 1465),aV (by kernel_rfl) (by kernel_rfl),fun F h=>aL⟩
theorem vB:GA (BB W) "RESERVED" (.str xl.cps.toList):=⟨(vs xl 1467),aV (by kernel_rfl) (by kernel_rfl),fun F h=>aL⟩
theorem Ef:GA (BB W) "SMALL" (.str pD.cps.toList):=⟨(vs pD 1469),aV (by kernel_rfl) (by kernel_rfl),fun F h=>aL⟩
theorem vq:GA (BB W) "CAPITALS" (.str w7.cps.toList):=⟨(vs w7 1471),aV (by kernel_rfl) (by kernel_rfl),fun F h=>aL⟩
theorem jV:GA (BB W) "FIGURES_lexer" (.str nc.cps.toList):=⟨(vs nc 1473),aV (by kernel_rfl) (by kernel_rfl),fun F h=>aL⟩
theorem oA:GA (BB W) "FIRST_SIGNS" (.str rD.cps.toList):=⟨(vs rD 1475),aV (by kernel_rfl) (by kernel_rfl),fun F h=>aL⟩
theorem mH:GA (BB W) "LATER_SIGNS" (.str xk.cps.toList):=⟨(vs xk 1477),aV (by kernel_rfl) (by kernel_rfl),fun F h=>aL⟩
theorem NF:(BB W).K.lookup 892 = some Qm:=by kernel_rfl
theorem cw {P:Params} {F:FF} {a:Addr} {o:Obj} {n:Nat} {items:List Value} {xs:List AV} (h:F.f a = some o) (hc:o.cls = .type "tuple") (hd:o.data = .seq ⟨items⟩ n) (hv:af P F items xs):AVR P F (.ref a) (.tup xs):=by
 simp only [AVR]; exact ⟨a,o,n,items,rfl,h,hc,hd,hv⟩
theorem ux:GA (BB W) "PECULIAR" (.tup [.str Qr.cps.toList,.str O2.cps.toList,.str Nr.cps.toList]):=⟨.ref 892,aV (by kernel_rfl) (by kernel_rfl),fun F h=>by exact cw (h _ _ (NF)) rfl rfl (.cons (aL) (.cons (aL) (.cons (aL) (.nil))))⟩
theorem u7:GA (BB W) "PREFIXES" (.str Cw.cps.toList):=⟨(vs Cw 1483),aV (by kernel_rfl) (by kernel_rfl),fun F h=>aL⟩
theorem N1:(BB W).K.lookup 893 = some O5:=by kernel_rfl
theorem ON:(BB W).K.lookup 894 = some O6:=by kernel_rfl
theorem Ru:(BB W).K.lookup 895 = some Rq:=by kernel_rfl
theorem oR:GA (BB W) "SIGN_NAMES" (.tup [.tup [.str Dr.cps.toList,.str Au.cps.toList],.tup [.str BU.cps.toList,.str Eg.cps.toList]]):=⟨.ref 895,aV (by kernel_rfl) (by kernel_rfl),fun F h=>by exact cw (h _ _ (Ru)) rfl rfl (.cons (cw (h _ _ (N1)) rfl rfl (.cons (aL) (.cons (aL) (.nil)))) (.cons (cw (h _ _ (ON)) rfl rfl (.cons (aL) (.cons (aL) (.nil)))) (.nil)))⟩
theorem OC:(BB W).K.lookup 896 = some OW:=by kernel_rfl
theorem Rk:(BB W).K.lookup 897 = some Rb:=by kernel_rfl
theorem Re:(BB W).K.lookup 898 = some Oc:=by kernel_rfl
theorem NY:(BB W).K.lookup 899 = some MS:=by kernel_rfl
theorem Nw:(BB W).K.lookup 900 = some Qc:=by kernel_rfl
theorem qm:GA (BB W) "QUOTATIONS" (.tup [.tup [.str Rm.cps.toList,.str Oe.cps.toList],.tup [.str MD.cps.toList,.str Ot.cps.toList],.tup [.str PN.cps.toList,.str PO.cps.toList],.tup [.str M6.cps.toList,.str RJ.cps.toList]]):=⟨.ref 900,aV (by kernel_rfl) (by kernel_rfl),fun F h=>by exact cw (h _ _ (Nw)) rfl rfl (.cons (cw (h _ _ (OC)) rfl rfl (.cons (aL) (.cons (aL) (.nil)))) (.cons (cw (h _ _ (Rk)) rfl rfl (.cons (aL) (.cons (aL) (.nil)))) (.cons (cw (h _ _ (Re)) rfl rfl (.cons (aL) (.cons (aL) (.nil)))) (.cons (cw (h _ _ (NY)) rfl rfl (.cons (aL) (.cons (aL) (.nil)))) (.nil)))))⟩
theorem pd:GA (BB W) "NOT_DOTTED" (.int 0):=⟨(.int 0 1728),aV (by kernel_rfl) (by kernel_rfl),fun F h=>ax⟩
theorem pF:GA (BB W) "BEHIND_DOT" (.int 1):=⟨(.int 1 1730),aV (by kernel_rfl) (by kernel_rfl),fun F h=>ax⟩
theorem u6:GA (BB W) "HAS_TAIL" (.int 2):=⟨(.int 2 1732),aV (by kernel_rfl) (by kernel_rfl),fun F h=>ax⟩
theorem A9:GA (BB W) "PIECE" (.int 0):=⟨(.int 0 1899),aV (by kernel_rfl) (by kernel_rfl),fun F h=>ax⟩
theorem AA:GA (BB W) "DATUM" (.int 1):=⟨(.int 1 1901),aV (by kernel_rfl) (by kernel_rfl),fun F h=>ax⟩
theorem FT:GA (BB W) "TAIL" (.int 2):=⟨(.int 2 1903),aV (by kernel_rfl) (by kernel_rfl),fun F h=>ax⟩
theorem zl:GA (BB W) "OUTPUT" (.int 0):=⟨(.int 0 2037),aV (by kernel_rfl) (by kernel_rfl),fun F h=>ax⟩
theorem BS:GA (BB W) "INPUT" (.int 1):=⟨(.int 1 2039),aV (by kernel_rfl) (by kernel_rfl),fun F h=>ax⟩
theorem vJ:GA (BB W) "LINE_END" (.int 10):=⟨(.int 10 2041),aV (by kernel_rfl) (by kernel_rfl),fun F h=>ax⟩
theorem A7:GA (BB W) "RADIX" (.int 10):=⟨(.int 10 2043),aV (by kernel_rfl) (by kernel_rfl),fun F h=>ax⟩
theorem Pn:GA (BB W) "law" (.val (.ref 2052)):=gv (by kernel_rfl) (by kernel_rfl)
theorem Rv:GA (BB W) "len" (.val (.builtin "len")):=⟨_,⟨by kernel_rfl,.inr ⟨by kernel_rfl,by kernel_rfl,by decide +kernel⟩⟩,fun F h=>bC⟩
theorem pR:GA (BB W) "isinstance" (.val (.builtin "isinstance")):=⟨_,⟨by kernel_rfl,.inr ⟨by kernel_rfl,by kernel_rfl,by decide +kernel⟩⟩,fun F h=>bC⟩
theorem Qy:GA (BB W) "abs" (.val (.builtin "abs")):=⟨_,⟨by kernel_rfl,.inr ⟨by kernel_rfl,by kernel_rfl,by decide +kernel⟩⟩,fun F h=>bC⟩
theorem Ny:GA (BB W) "chr" (.val (.builtin "chr")):=⟨_,⟨by kernel_rfl,.inr ⟨by kernel_rfl,by kernel_rfl,by decide +kernel⟩⟩,fun F h=>bC⟩
theorem Q0:GA (BB W) "ord" (.val (.builtin "ord")):=⟨_,⟨by kernel_rfl,.inr ⟨by kernel_rfl,by kernel_rfl,by decide +kernel⟩⟩,fun F h=>bC⟩
theorem QH:GA (BB W) "all" (.val (.builtin "all")):=⟨_,⟨by kernel_rfl,.inr ⟨by kernel_rfl,by kernel_rfl,by decide +kernel⟩⟩,fun F h=>bC⟩
theorem z2:GA (BB W) "divmod" (.val (.builtin "divmod")):=⟨_,⟨by kernel_rfl,.inr ⟨by kernel_rfl,by kernel_rfl,by decide +kernel⟩⟩,fun F h=>bC⟩
theorem DR:GA (BB W) "range" (.val (.type "range")):=⟨_,⟨by kernel_rfl,.inr ⟨by kernel_rfl,by kernel_rfl,by decide +kernel⟩⟩,fun F h=>bC⟩
theorem Gi:GA (BB W) "list" (.val (.type "list")):=⟨_,⟨by kernel_rfl,.inr ⟨by kernel_rfl,by kernel_rfl,by decide +kernel⟩⟩,fun F h=>bC⟩
theorem QS:GA (BB W) "zip" (.val (.type "zip")):=⟨_,⟨by kernel_rfl,.inr ⟨by kernel_rfl,by kernel_rfl,by decide +kernel⟩⟩,fun F h=>bC⟩
theorem rB:GA (BB W) "enumerate" (.val (.type "enumerate")):=⟨_,⟨by kernel_rfl,.inr ⟨by kernel_rfl,by kernel_rfl,by decide +kernel⟩⟩,fun F h=>bC⟩
theorem vD:GA (BB W) "reversed" (.val (.type "reversed")):=⟨_,⟨by kernel_rfl,.inr ⟨by kernel_rfl,by kernel_rfl,by decide +kernel⟩⟩,fun F h=>bC⟩
theorem Pg:GA (BB W) "int" (.val (.type "int")):=⟨_,⟨by kernel_rfl,.inr ⟨by kernel_rfl,by kernel_rfl,by decide +kernel⟩⟩,fun F h=>bC⟩
theorem E0:GA (BB W) "bool" (.val (.type "bool")):=⟨_,⟨by kernel_rfl,.inr ⟨by kernel_rfl,by kernel_rfl,by decide +kernel⟩⟩,fun F h=>bC⟩
end
section
set_option bootstrap.genMatcherCode false
noncomputable abbrev lo (s:String):Str × NameKind:=(Str.ofString s,.local)
noncomputable abbrev ce (s:String):Str × NameKind:=(Str.ofString s,.cell)
noncomputable abbrev gl (s:String):Str × NameKind:=(Str.ofString s,.globalImplicit)
noncomputable def kt (names:List Str) (args:List AV) (others:List Str):Loc:=(names.zip args).map (fun p=>(p.1,some p.2))++others.map (fun x=>(x,none))
noncomputable def PQ (scope:Scope) (x:Str):Bool:=scope.names.lookup x == some .local || scope.names.lookup x == some .cell
noncomputable def dN (scope:Scope) (names:List Str) (sc:List (Str × NameKind)) (others:List Str):Bool :=
 decide (names++others).Nodup && (names++others).all (PQ scope) && sc.all (fun p=>scope.names.lookup p.1 == some p.2) && (names++others).all (fun x=>!(x == ("__debug__":Str)))
theorem yL {scope:Scope} {x:Str} (h:PQ scope x = true):scope.names.lookup x = some .local ∨ scope.names.lookup x = some .cell:=by
 simpa [PQ] using h
theorem yl:∀ {names:List Str} {args:List AV},names.length = args.length→(names.zip args).map (fun zz=>zz.1) = names
 | [],[],_=>rfl
 | n :: ns,a :: as,h=>by rw [List.zip_cons_cons,List.map_cons,yl (by simpa using h)]
theorem uY {x:Str} {a:AV}:∀ {names:List Str} {args:List AV},names.Nodup→(x,a) ∈ names.zip args→List.lookup x (names.zip args) = some a
 | n :: ns,b :: as,hn,hm=>by
  rw [List.zip_cons_cons] at hm ⊢
  rw [List.nodup_cons] at hn
  rw [List.lookup_cons]
  rcases List.mem_cons.mp hm with e | hm2
  ·cases e; simp
  ·have:(x == n) = false:=by
    cases q:x == n with
    | false=>rfl
    | true=>rw [beq_iff_eq] at q; subst q; exact absurd (List.of_mem_zip hm2).1 hn.1
   rw [this]
   exact uY hn.2 hm2
theorem Entry.of {scope:Scope} {names:List Str} {args:List AV} {sc:List (Str × NameKind)} {others:List Str} (h:dN scope names sc others = true) (hl:names.length = args.length):Entry scope names args sc (kt names args others):=by
 simp only [dN,Bool.and_eq_true,decide_eq_true_eq,List.all_eq_true] at h
 obtain ⟨⟨⟨h1,h2⟩,h3⟩,h4⟩:=h
 have hm:(kt names args others).map (fun zz=>zz.1) = names++others:=by
  unfold kt
  rw [List.map_append,List.map_map,List.map_map]
  congr 1
  ·exact yl hl
  ·exact List.map_id' _
 refine ⟨(List.nodup_append.mp h1).1,hl,fun x hx=>yL (h2 x (List.mem_append.mpr (.inl hx))),fun x k hx zz=>by simpa using h3 (x,k) hx,fun x hx=>yL (h2 x (by rw [hm] at hx; exact hx)),by rw [hm]; exact h1,fun x hx=>by
  have:=h4 x (by rw [hm] at hx; exact hx)
  simpa using this,fun x a hx=>?_⟩
 unfold kt at hx
 rcases List.mem_append.mp hx with hx | hx
 ·obtain ⟨p,hp,e⟩:=List.mem_map.mp hx
  cases e
  exact uY (List.nodup_append.mp h1).1 hp
 ·obtain ⟨p,hp,e⟩:=List.mem_map.mp hx
  cases e
section
variable {B:Base} {n:Nat} {H:HS} {f:Addr} {fd:FuncData} {body:List Stmt} {args:List AV} {sc:List (Str × NameKind)} {Q:AV→HS→Prop}
noncomputable def KFn (Q:AV→HS→Prop):AF→Loc→HS→Prop:=fun f' zz H'=>∃ a,Cg f' a∧Q a H'
theorem yZ {Q:AV→HS→Prop} {a:AV} {loc:Loc} {H:HS} (h:Q a H):KFn Q (.ret a) loc H:=⟨a,rfl,h⟩
theorem uj {Q:AV→HS→Prop} {loc:Loc} {H:HS} (h:Q .none H):KFn Q .next loc H:=⟨_,rfl,h⟩
structure FnEnt (B:Base) (f:Addr) (body:List Stmt) (names:List Str) (sc:List (Str × NameKind)) (others:List Str):Prop where
 ex:∃ fd as dfl,FnOk B f fd body∧fd.params = ⟨[],as,none,[],[],none,dfl⟩∧as.map (fun zz=>zz.arg) = names∧dN fd.scope names sc others = true∧(fd.defaults = .none ∨ ∃ T o items n,fd.defaults = .ref T∧B.K.lookup T = some o∧o.data = .seq items n)
noncomputable def xR (K:Frag) (fd:FuncData) (names:List Str) (sc:List (Str × NameKind)) (others:List Str):Bool :=
 fd.params.posonlyargs.isEmpty && fd.params.vararg.isNone && fd.params.kwonlyargs.isEmpty && fd.params.kw_defaults.isEmpty && fd.params.kwarg.isNone && fd.params.args.map (fun zz=>zz.arg) == names && dN fd.scope names sc others &&
  (fd.defaults == .none || match fd.defaults with
   | .ref T=>match K.lookup T with
    | some ⟨_,_,.seq _ _,_⟩=>true
    | _=>false
   | _=>false)
set_option tactic.hygienic true in
theorem FnEnt.of {fd:FuncData} {names:List Str} {others:List Str} (hf:FnOk B f fd body) (h:xR B.K fd names sc others = true):FnEnt B f body names sc others:=by
 simp only [xR,Bool.and_eq_true,List.isEmpty_iff,Option.isNone_iff_eq_none,beq_iff_eq,Bool.or_eq_true] at h
 obtain ⟨⟨⟨⟨⟨⟨⟨h1,h2⟩,h3⟩,h4⟩,h5⟩,h6⟩,h7⟩,h8⟩:=h
 refine ⟨fd,fd.params.args,fd.params.defaults,hf,?_,h6,h7,?_⟩
 ·cases hp:fd.params with
  | mk a b c d e g i =>
   rw [hp] at h1 h2 h3 h4 h5
   simp only at h1 h2 h3 h4 h5
   subst h1 h2 h3 h4 h5
   rfl
 ·rcases h8 with h8 | h8
  ·exact .inl h8
  ·right
   split at h8
   ·rename_i T hT
    split at h8
    ·rename_i c d v k sl ho
     exact ⟨T,_,v,k,hT,ho,rfl⟩
    ·cases h8
   ·cases h8
noncomputable def Sy (K:Frag) (fd:FuncData):Bool:=codeIn K fd.code fd.qualname && (match fd.scope.kind with | .function=>true | _=>false) && !fd.scope.isCoroutine && !fd.scope.isGenerator && Nat.beq fd.globals mainGlobals && Nat.beq fd.builtins builtinsNs && fd.closure.isEmpty
noncomputable def fnIn (K:Frag) (f:Addr):Option FuncData:=match K.lookup f with
 | some ⟨_,_,.func fd,_⟩=>some fd
 | _=>none
noncomputable def Dc (K:Frag) (f:Addr):Option (List Stmt):=match fnIn K f with
 | some fd=>match fd.body with
  | .stmts b=>some b
  | _=>none
 | none=>none
noncomputable def Hb (K:Frag) (f:Addr) (names:List Str) (sc:List (Str × NameKind)) (others:List Str):Bool:=match fnIn K f with
 | some fd=>Sy K fd && xR K fd names sc others
 | none=>false
set_option tactic.hygienic true in
theorem FnEnt.by_ {names:List Str} {others:List Str} (h:Hb B.K f names sc others = true) (hb:Dc B.K f = some body):FnEnt B f body names sc others:=by
 unfold Hb at h
 unfold Dc at hb
 cases e:fnIn B.K f with
 | none=>rw [e] at h; cases h
 | some fd =>
  rw [e] at h hb
  simp only [Bool.and_eq_true] at h
  obtain ⟨h,hc⟩:=h
  have hl:∃ o,B.K.lookup f = some o∧o.data = .func fd:=by
   unfold fnIn at e
   split at e
   ·rename_i q; cases e; exact ⟨_,q,rfl⟩
   ·cases e
  have hbo:fd.body = .stmts body:=by
   cases q:fd.body with
   | stmts b=>simp only [q] at hb; cases hb; rfl
   | _=>simp only [q] at hb; cases hb
  unfold Sy at h
  simp only [Bool.and_eq_true,Bool.not_eq_true',List.isEmpty_iff] at h
  obtain ⟨⟨⟨⟨⟨⟨g1,g2⟩,g3⟩,g4⟩,g5⟩,g6⟩,g7⟩:=h
  refine .of ⟨hl,hbo,g1,?_,g3,g4,Nat.eq_of_beq_eq_true g5,Nat.eq_of_beq_eq_true g6,g7⟩ hc
  cases q:fd.scope.kind with
  | function=>rfl
  | _=>rw [q] at g2; cases g2
theorem Fv {names:List Str} {others:List Str} (fe:FnEnt B f body names sc others) (hl:names.length = args.length) (hn:1≤n) (h:XS B (n - 1) sc (kt names args others) H body (KFn Q)):aJ B n (.ref f) args H Q:=by
 obtain ⟨fd,as,dfl,hf,hp,hnm,hchk,hd⟩:=fe.ex
 obtain ⟨m,rfl⟩:∃ m,n = m + 1:=⟨n - 1,by omega⟩
 have en:=Entry.of hchk hl
 refine sE hf en (fun hpp F s vs R hv=>⟨vs,?_,hv⟩) h
 subst hnm
 refine xQ hp ?_ en.nd ?_
 ·rcases hd with hd | ⟨T,o,items,k,e1,e2,e3⟩
  ·exact .inl hd
  ·exact .inr ⟨T,o,items,k,e1,R.good.X _ _ e2,e3⟩
 ·have h1:=hl
  rw [List.length_map] at h1
  rw [h1,hv.len]
end
section
variable {B:Base} {n:Nat} {H:HS} {sc:List (Str × NameKind)} {loc:Loc}
theorem Ys {α:Type} {a:α} {l:List α}:a ∈ a :: l:=.head _
theorem Za {α:Type} {a b:α} {l:List α} (h:a ∈ l):a ∈ b :: l:=.tail _ h
theorem UI {P R:Prop} (h:P):if true = true then P else R:=by rw [if_pos rfl]; exact h
theorem Sr {P R:Prop} (h:R):if false = true then P else R:=by rw [if_neg Bool.false_ne_true]; exact h
theorem b7 {c:Bool} {P R:Prop} (e:c = true) (h:P):if c = true then P else R:=by rw [if_pos e]; exact h
theorem al {c:Bool} {P R:Prop} (e:c = false) (h:R):if c = true then P else R:=by rw [e,if_neg Bool.false_ne_true]; exact h
theorem eD {c:Bool} {P R:Prop} (h1:c = true→P) (h2:c = false→R):if c = true then P else R:=by
 cases c with
 | true=>exact UI (h1 rfl)
 | false=>exact Sr (h2 rfl)
theorem aw {J:HS} {i:Nat} {c:Cell} (h:H[i]? = some c):(H++J)[i]? = some c:=by
 rw [List.getElem?_append_left (List.getElem?_eq_some_iff.mp h).1]; exact h
theorem aB {c:Cell}:(H++[c])[H.length]? = some c:=by simp
theorem aj {i:Nat} {c c0:Cell} (h:H[i]? = some c0):(H.set i c)[i]? = some c:=by
 rw [List.getElem?_set_self (List.getElem?_eq_some_iff.mp h).1]
theorem ao {i j:Nat} {c c':Cell} (hne:i ≠ j) (h:H[j]? = some c):(H.set i c')[j]? = some c:=by
 rw [List.getElem?_set_ne hne]; exact h
theorem aF {i j:Nat} {a b:Cell} (h1:H[i]? = some a) (h2:H[j]? = some b) (hab:a ≠ b):i ≠ j:=by
 rintro rfl; rw [h1] at h2; exact hab (Option.some.inj h2)
theorem ar {i:Nat} {c:Cell} (h:H[i]? = some c):i < H.length:=(List.getElem?_eq_some_iff.mp h).1
theorem Gg {i:Nat} {c:Cell} {J:HS} (h:i < H.length):(H++J).set i c = H.set i c++J:=by rw [List.set_append_left _ _ h]
theorem aq {c d:Cell}:(H++[c]).set H.length d = H++[d]:=by rw [List.set_append_right _ _ (Nat.le_refl _),Nat.sub_self]; rfl
noncomputable def ae (s:String):List Nat:=s.toList.map Char.toNat
theorem m8 {s:String}:(Str.ofString s).cps.toList = ae s:=by
 rw [Str.ofString_eq_byList]; simp [Str.ofStringByList,ae]
theorem EK {s:String} {k:Nat} {pos:Pos} {Q:AV→HS→Prop} (h:Q (.str (ae s)) H):EV B n sc loc H (.Constant (.str (Str.ofString s)) k pos) Q:=Ro (by rw [m8]; exact h)
end
section
variable {W:WW}
noncomputable def iA:List Nat:=[26,31,36,158,165,172,216,219,237,244,282,300,303,321,324,342,345,363,366,426,429,459,464,472,479,507,626,633,640,648,655,662,669,775,782,787,794,808,811,822,848,869,876,883,891,914,917,928,935,942,949,956,963,970,985,992,1006,1013,1020,1027,1034,1041,1048,1055,1058,1076,1079,1098,1105,1112,1119,1126,1133,1140,1147,1154,1161,1164,1182,1189,1196,1210,1217,1224,1231,1238,1245,1252,1255,1267,1281,1288,1295,1298,1316,1323,1326,1344,1351,1358,1410,1421,1428,1435,1442,1449,1456,1463,1470,1477,1484,1491,1498,1505,1512,1519,1533,1540,1561,1575,1596,1603,1610,1624,1631,1652,1673,1680,1687,1694,1701,1708,1715,1729,1764,1841,1848,1855,1876,1883,1886,1904,1918,1970,1989,1999,2006,2013,2018,2023,2028,2033,2040,2045,2052]
theorem BW (P:Params):iA.all (fun a=>keepIn (KK P) (.ref a)) = true:=by kernel_rfl
theorem Ut {a:Nat} (h:iA.contains a = true):bK (BB W) (.ref a):=PS (List.all_eq_true.mp (BW W.w.params) a (by simpa using h))
end
end
section
set_option bootstrap.genMatcherCode false
section
variable {B:Base} {n:Nat} {H:HS} {sc:List (Str × NameKind)} {loc:Loc} {Q:AV→HS→Prop} {C fI:Addr} {flds:List Str}
theorem sm {k x:Str} {l:List Str} (m:x ∈ l) (h:k ∉ l):(k == x) = false:=beq_eq_false_iff_ne.mpr fun e=>h (e ▸ m)
theorem mA {k x:Str} {l:List Str} (h:x ∉ k :: l):(k == x) = false:=beq_eq_false_iff_ne.mpr fun e=>h (e ▸ .head _)
theorem D0 {x:Str} {a:AV} {fs:List (Str × AV)} (hn:(fs.map (fun zz=>zz.1)).Nodup) (hm:(x,a) ∈ fs):o9 x fs = some a:=by
 induction fs with
 | nil=>cases hm
 | cons p r ih =>
  have hn:=List.nodup_cons.mp hn
  unfold o9
  rcases List.mem_cons.mp hm with e | hm2
  ·subst e; exact if_pos (beq_self_eq_true _)
  ·rw [sm (List.mem_map.mpr ⟨_,hm2,rfl⟩) hn.1]
   exact ih hn.2 hm2
theorem zB {x:Str} {fs:List (Str × AV)} (h:x ∉ fs.map (fun zz=>zz.1)):o9 x fs = none:=by
 induction fs with
 | nil=>rfl
 | cons p r ih =>
  unfold o9
  rw [mA h]
  exact ih fun q=>h (.tail _ q)
inductive FU (x:Str) (a:AV):List (Str × AV)→List (Str × AV)→Prop
 | head {o:AV} {r:List (Str × AV)}:FU x a ((x,o) :: r) ((x,a) :: r)
 | tail {p:Str × AV} {r r':List (Str × AV)}:FU x a r r'→FU x a (p :: r) (p :: r')
theorem FU.at {x:Str} {a:AV} {fs fs':List (Str × AV)} (h:FU x a fs fs'):x ∈ fs.map (fun zz=>zz.1):=by
 induction h with
 | head=>exact .head _
 | tail _ ih=>exact .tail _ ih
theorem Gh {x:Str} {a:AV} {fs fs':List (Str × AV)} (hn:(fs.map (fun zz=>zz.1)).Nodup) (h:FU x a fs fs'):rf x a fs = fs':=by
 induction h with
 | head=>exact if_pos (beq_self_eq_true _)
 | tail h ih =>
  have hn:=List.nodup_cons.mp hn
  unfold rf
  rw [sm h.at hn.1,ih hn.2]; rfl
theorem DC {x:Str} {a:AV} {fs:List (Str × AV)} (h:x ∉ fs.map (fun zz=>zz.1)):rf x a fs = fs++[(x,a)]:=by
 induction fs with
 | nil=>rfl
 | cons p r ih =>
  unfold rf
  rw [mA h,ih fun q=>h (.tail _ q)]; rfl
theorem ZK {i:Nat} {fs:List (Str × AV)} {x:Str} {a:AV} (hi:H[i]? = some (.inst C fs)) (hc:ClsOk B C fI flds) (hk:fs.map (fun zz=>zz.1) = flds) (hm:(x,a) ∈ fs) (hd:aZ a = true) (h:Q a H):fN B n (.cell i) x H Q :=
 EY hi hc.get hc.dict (hc.fld x (hk ▸ List.mem_map.mpr ⟨_,hm,rfl⟩)) (by rfl) (D0 (hk ▸ hc.nd) hm) hd h
inductive OG (x:Str) (a:AV):List Str→List AV→Prop
 | head {ks:List Str} {vs:List AV}:OG x a (x :: ks) (a :: vs)
 | tail {k:Str} {v:AV} {ks:List Str} {vs:List AV}:OG x a ks vs→OG x a (k :: ks) (v :: vs)
theorem OG.at {x:Str} {a:AV} {ks:List Str} {vs:List AV} (h:OG x a ks vs):x ∈ ks:=by
 induction h with
 | head=>exact .head _
 | tail _ ih=>exact .tail _ ih
theorem EE {x:Str} {a:AV} {ks:List Str} {vs:List AV} (hn:ks.Nodup) (h:OG x a ks vs):jK x ks vs = some a:=by
 induction h with
 | head=>exact if_pos (beq_self_eq_true _)
 | tail h ih =>
  have hn:=List.nodup_cons.mp hn
  unfold jK
  rw [sm h.at hn.1]
  exact ih hn.2
theorem zM {x:Str} {ks:List Str} (h:x ∉ ks):∀ {vs:List AV},jK x ks vs = none:=by
 induction ks with
 | nil=>intro vs; simp [jK]
 | cons k ks ih =>
  intro vs
  cases vs with
  | nil=>simp [jK]
  | cons v vs =>
   unfold jK
   rw [mA h]
   exact ih fun q=>h (.tail _ q)
theorem XT {vs:List AV} {x:Str} {a:AV} (hc:ClsOk B C fI flds) (hm:OG x a flds vs) (hd:aZ a = true) (h:Q a H):fN B n (.obj C flds vs) x H Q :=
 U3 hc.get hc.dict (hc.fld x hm.at) (by rfl) (EE hc.nd hm) hd h
theorem uu {x:Str} {f:Addr} (hc:ClsOk B C fI flds) (mt:MethOk B C x f):x ∉ flds:=fun hx=>by
 have:=hc.fld x hx
 rw [mt.find] at this; cases this
theorem MC {i:Nat} {fs:List (Str × AV)} {x:Str} {f:Addr} {Q:Value × List AV→HS→Prop} (mt:MethOk B C x f) (hc:ClsOk B C fI flds) (hi:H[i]? = some (.inst C fs)) (hk:fs.map (fun zz=>zz.1) = flds) (h:Q (.ref f,[.cell i]) H):ee B n (.cell i) x H Q :=
 RD hi hc.get mt.find mt.fn (zB (hk ▸ uu hc mt)) h
theorem NS {vs:List AV} {x:Str} {f:Addr} {Q:Value × List AV→HS→Prop} (mt:MethOk B C x f) (hc:ClsOk B C fI flds) (h:Q (.ref f,[.obj C flds vs]) H):ee B n (.obj C flds vs) x H Q :=
 WO hc.get mt.find mt.fn (zM (uu hc mt)) h
theorem Zv {i:Nat} {fs fs':List (Str × AV)} {x:Str} {a:AV} {Q:Unit→HS→Prop} (hi:H[i]? = some (.inst C fs)) (hc:ClsOk B C fI flds) (hk:fs.map (fun zz=>zz.1) = flds) (hu:FU x a fs fs') (hz:fs.length≤1000) (h:Q () (H.set i (.inst C fs'))):jf B n (.cell i) a x H Q :=
 yQ hi hc.set_ hc.over (by unfold takerIn; rw [hc.fld x (hk ▸ hu.at)]; rfl) hc.dict hz (by rw [Gh (hk ▸ hc.nd) hu]; exact h)
theorem X3 {i:Nat} {fs:List (Str × AV)} {x:Str} {a:AV} {rest:List Str} {Q:Unit→HS→Prop} (hi:H[i]? = some (.inst C fs)) (hc:ClsOk B C fI flds) (hk:flds = fs.map (fun zz=>zz.1)++x :: rest) (hz:fs.length≤1000) (h:Q () (H.set i (.inst C (fs++[(x,a)])))):jf B n (.cell i) a x H Q:=by
 have hnd:=hc.nd
 rw [hk] at hnd
 have hx:x ∉ fs.map (fun zz=>zz.1):=fun hx=>(List.nodup_append.mp hnd).2.2 x hx x (.head _) rfl
 exact yQ hi hc.set_ hc.over (by unfold takerIn; rw [hc.fld x (by rw [hk]; simp)]; rfl) hc.dict hz (by rw [DC hx]; exact h)
theorem bX {args:List AV} (hc:ClsOk B C fI flds) (hn:1≤n) (h:aJ B (n - 1) (.ref fI) (.cell H.length :: args) (H++[.inst C []]) fun r H'=>r = .none∧Q (.cell H.length) H'):ac B n (.ref C) args H Q:=by
 obtain ⟨m,rfl⟩:∃ m,n = m + 1:=⟨n - 1,by lia⟩
 exact (qV hc.makes hc.ini hc.ityp h).call
theorem ft {args vs:List AV} (hc:ClsOk B C fI flds) (hn:1≤n) (hb:∀ m,AV.bds m args→AV.bds m vs) (hl:flds.length = vs.length)
  (h:aJ B (n - 1) (.ref fI) (.cell H.length :: args) (H++[.inst C []]) fun r H'=>r = .none∧H' = H++[.inst C (flds.zip vs)]) (q:Q (.obj C flds vs) H):ac B n (.ref C) args H Q:=by
 obtain ⟨m,rfl⟩:∃ m,n = m + 1:=⟨n - 1,by lia⟩
 refine (aJ.layI fun hw hargs=>?_).call
 refine qV hc.makes hc.ini hc.ityp ?_
 intro A hp F s vs' hA R hv
 refine codeAny_mono (h A hp F s vs' hA R hv) fun r s' z=>?_
 cases r with
 | error e=>exact z
 | ok fl =>
  cases fl with
  | ret v =>
   obtain ⟨F',b,H',g',R',hb',rfl,rfl⟩:=z
   have e1:(flds.zip vs).map (fun zz=>zz.1) = flds:=List.map_fst_zip (by lia)
   have e2:(flds.zip vs).map (fun zz=>zz.2) = vs:=List.map_snd_zip (by lia)
   exact ⟨F',.none,_,g',R',hb',rfl,H,C,flds.zip vs,rfl,rfl,Nat.le_refl _,hw,by rw [e2]; exact hb _ hargs,by rw [e1,e2]; exact q⟩
  | _=>exact z
end
end
section
set_option bootstrap.genMatcherCode false
noncomputable def ye (scope:Scope) (sc sc':List (Str × NameKind)) (fr ts:List Str):Bool :=
 scope.kind == .function && scope.names.all (fun p=>p.2 != .cell) && scope.names.all (fun p=>p.2 != .free || (fr.contains p.1 && sc.contains (p.1,.cell))) &&
 scope.names.all (fun p=>p.2 != .local || ((bg scope.names).lookup p.1 == some .local && scope.names.lookup p.1 == some .local)) && sc'.all (fun p=>(bg scope.names).lookup p.1 == some p.2) &&
 (fr++ts).all (fun x=>((bg scope.names).lookup x == some .local || (bg scope.names).lookup x == some .cell) && !(x == ("__debug__":Str))) && decide (fr++ts).Nodup &&
 fr.all (fun x=>scope.names.contains (x,.free) && (bg scope.names).lookup x == some .cell)
noncomputable def cu (fr:List (Str × AV)) (ts:List Str):Loc:=fr.map (fun p=>(p.1,some p.2))++ts.map (fun x=>(x,none))
theorem CompOk.of {scope:Scope} {sc sc':List (Str × NameKind)} {loc:Loc} {fr:List (Str × AV)} {ts:List Str} (h:ye scope sc sc' (fr.map (fun zz=>zz.1)) ts = true) (hm:∀ p ∈ fr,(p.1,some p.2) ∈ loc):CompOk scope sc loc sc' (cu fr ts):=by
 simp only [ye,Bool.and_eq_true,beq_iff_eq,List.all_eq_true,Bool.or_eq_true,bne_iff_ne,ne_eq,decide_eq_true_eq,Bool.not_eq_true',List.contains_iff_mem] at h
 obtain ⟨⟨⟨⟨⟨⟨⟨h1,h2⟩,h3⟩,h4⟩,h5⟩,h6⟩,h7⟩,h8⟩:=h
 have e:(cu fr ts).map (fun zz=>zz.1) = fr.map (fun zz=>zz.1)++ts:=by
  unfold cu
  rw [List.map_append,List.map_map,List.map_map]
  congr 1
  exact List.map_id' _
 refine ⟨h1,fun x hx=>h2 x hx,fun x hx=>?_,fun x hx hl=>?_,fun x hx hl=>?_,fun x k hx zz=>h5 _ hx,fun x hx=>(h6 x (by rw [e] at hx; exact hx)).1,by rw [e]; exact h7,fun x hx=>by simpa using (h6 x (by rw [e] at hx; exact hx)).2,fun x a hx=>?_⟩
 ·rcases h3 _ hx with q | ⟨q1,q2⟩
  ·exact absurd rfl q
  ·obtain ⟨p,hp,e⟩:=List.mem_map.mp q1
   have e:p.1 = x:=e
   exact ⟨q2,p.2,by subst e; exact hm p hp⟩
 ·rcases h4 x hx with q | q
  ·exact absurd hl q
  ·exact q.1
 ·rcases h4 x hx with q | q
  ·exact absurd hl q
  ·exact q.2
 ·unfold cu at hx
  rcases List.mem_append.mp hx with hx | hx
  ·obtain ⟨p,hp,e⟩:=List.mem_map.mp hx
   cases e
   obtain ⟨q1,q2⟩:=h8 p.1 (List.mem_map.mpr ⟨p,hp,rfl⟩)
   exact ⟨q1,q2,hm p hp⟩
  ·obtain ⟨p,hp,e⟩:=List.mem_map.mp hx
   cases e
variable {W:WW}
noncomputable abbrev jA:List (Str × NameKind):=[lo "codes"]
noncomputable abbrev f6:List (Str × NameKind):=[lo ".0",lo "code",gl "chr"]
theorem ki:FnEnt (BB W) 26 (fb f2) ["codes"] jA []:=.by_ (by kernel_rfl) (by kernel_rfl)
noncomputable abbrev ka:List (Str × NameKind):=[lo "text"]
noncomputable abbrev gq:List (Str × NameKind):=[lo ".0",lo "letter",gl "ord"]
theorem kc:FnEnt (BB W) 31 (fb f3) ["text"] ka []:=.by_ (by kernel_rfl) (by kernel_rfl)
noncomputable abbrev l7:List (Str × NameKind):=[ce "store",ce "string",gl "range"]
noncomputable abbrev hE:List (Str × NameKind):=[lo ".0",lo "place",ce "store",ce "string"]
theorem lV:FnEnt (BB W) 36 (fb f4) ["store","string"] l7 []:=.by_ (by kernel_rfl) (by kernel_rfl)
noncomputable abbrev EM:List (Str × NameKind):=[lo "store",lo "name",lo "place",lo "value",lo "is_good",gl "WrongKind"]
theorem Fh:FnEnt (BB W) 158 (fb f13) ["store","name","place","value","is_good"] EM []:=.by_ (by kernel_rfl) (by kernel_rfl)
noncomputable abbrev gU:List (Str × NameKind):=[lo "store",lo "name",lo "place",lo "value",gl "need"]
theorem hW:FnEnt (BB W) 165 (fb f14) ["store","name","place","value"] gU []:=.by_ (by kernel_rfl) (by kernel_rfl)
noncomputable abbrev kf:List (Str × NameKind):=[lo "store",lo "name",lo "place",lo "value",gl "need"]
theorem jP:FnEnt (BB W) 172 (fb f15) ["store","name","place","value"] kf []:=.by_ (by kernel_rfl) (by kernel_rfl)
noncomputable abbrev hV:List (Str × NameKind):=[lo "self",lo "number",lo "text"]
theorem ie:FnEnt (BB W) 216 (fb Ar) ["self","number","text"] hV []:=.by_ (by kernel_rfl) (by kernel_rfl)
noncomputable abbrev dR:List (Str × NameKind):=[lo "self"]
theorem dP:FnEnt (BB W) 237 (fb Da) ["self"] dR []:=.by_ (by kernel_rfl) (by kernel_rfl)
noncomputable abbrev eI:List (Str × NameKind):=[lo "self",lo "text",lo "found",gl "Symbol",gl "len"]
theorem eV:FnEnt (BB W) 244 (fb AM) ["self","text"] eI ["found"]:=.by_ (by kernel_rfl) (by kernel_rfl)
noncomputable abbrev jN:List (Str × NameKind):=[lo "self",lo "car",lo "cdr"]
theorem j9:FnEnt (BB W) 300 (fb AB) ["self","car","cdr"] jN []:=.by_ (by kernel_rfl) (by kernel_rfl)
noncomputable abbrev jW:List (Str × NameKind):=[lo "self",lo "code"]
theorem j6:FnEnt (BB W) 321 (fb Ao) ["self","code"] jW []:=.by_ (by kernel_rfl) (by kernel_rfl)
noncomputable abbrev jT:List (Str × NameKind):=[lo "self",lo "codes"]
theorem jU:FnEnt (BB W) 342 (fb Dg) ["self","codes"] jT []:=.by_ (by kernel_rfl) (by kernel_rfl)
noncomputable abbrev gM:List (Str × NameKind):=[lo "self",lo "things"]
theorem gX:FnEnt (BB W) 363 (fb Cp) ["self","things"] gM []:=.by_ (by kernel_rfl) (by kernel_rfl)
noncomputable abbrev fZ:List (Str × NameKind):=[lo "self",lo "number"]
theorem fQ:FnEnt (BB W) 426 (fb Ci) ["self","number"] fZ []:=.by_ (by kernel_rfl) (by kernel_rfl)
noncomputable abbrev rv:List (Str × NameKind):=[lo "told",gl "Text"]
noncomputable abbrev k9:List (Str × NameKind):=[lo ".0",lo "letter",gl "ord"]
theorem tF:FnEnt (BB W) 459 (fb f31) ["told"] rv []:=.by_ (by kernel_rfl) (by kernel_rfl)
noncomputable abbrev nj:List (Str × NameKind):=[lo "text"]
noncomputable abbrev jg:List (Str × NameKind):=[lo ".0",lo "code",gl "chr"]
theorem nO:FnEnt (BB W) 464 (fb f32) ["text"] nj []:=.by_ (by kernel_rfl) (by kernel_rfl)
noncomputable abbrev yc:List (Str × NameKind):=[lo "things",lo "tail",lo "found",lo "place",gl "range",gl "len",gl "Pair"]
theorem xM:FnEnt (BB W) 472 (fb f33) ["things","tail"] yc ["found","place"]:=.by_ (by kernel_rfl) (by kernel_rfl)
noncomputable abbrev qe:List (Str × NameKind):=[lo "datum",gl "isinstance",gl "bool"]
theorem dB:FnEnt (BB W) 479 (fb f34) ["datum"] qe []:=.by_ (by kernel_rfl) (by kernel_rfl)
noncomputable abbrev wR:List (Str × NameKind):=[lo "value",gl "isinstance",gl "Real"]
theorem wG:FnEnt (BB W) 507 (fb f38) ["value"] wR []:=.by_ (by kernel_rfl) (by kernel_rfl)
noncomputable abbrev zC:List (Str × NameKind):=[lo "one",lo "other",gl "abs"]
theorem zZ:FnEnt (BB W) 626 (fb f54) ["one","other"] zC []:=.by_ (by kernel_rfl) (by kernel_rfl)
noncomputable abbrev FE:List (Str × NameKind):=[lo "top",lo "bottom",gl "Ratio"]
theorem EO:FnEnt (BB W) 633 (fb f55) ["top","bottom"] FE []:=.by_ (by kernel_rfl) (by kernel_rfl)
noncomputable abbrev ul:List (Str × NameKind):=[lo "top",lo "bottom",lo "common",gl "gcd_of",gl "made"]
theorem u5:FnEnt (BB W) 640 (fb f56) ["top","bottom"] ul ["common"]:=.by_ (by kernel_rfl) (by kernel_rfl)
noncomputable abbrev nl:List (Str × NameKind):=[lo "number",lo "radix",lo "found",lo "figure",gl "divmod",gl "FIGURES_numtext",gl "reversed"]
theorem nT:FnEnt (BB W) 648 (fb f65) ["number","radix"] nl ["found","figure"]:=.by_ (by kernel_rfl) (by kernel_rfl)
noncomputable abbrev pn:List (Str × NameKind):=[lo "number",lo "radix",lo "parts",lo "lot",lo "rest",lo "figures",gl "FIGURES_AT_ONCE",gl "divmod",gl "few_figures",gl "len",gl "reversed"]
theorem pQ:FnEnt (BB W) 655 (fb f66) ["number","radix"] pn ["parts","lot","rest","figures"]:=.by_ (by kernel_rfl) (by kernel_rfl)
noncomputable abbrev pK:List (Str × NameKind):=[lo "number",lo "radix",gl "figures_of",gl "abs"]
theorem pc:FnEnt (BB W) 662 (fb f67) ["number","radix"] pK []:=.by_ (by kernel_rfl) (by kernel_rfl)
noncomputable abbrev qj:List (Str × NameKind):=[lo "number",lo "radix",gl "isinstance",gl "Ratio",gl "whole_text"]
theorem oK:FnEnt (BB W) 669 (fb f68) ["number","radix"] qj []:=.by_ (by kernel_rfl) (by kernel_rfl)
noncomputable abbrev nN:List (Str × NameKind):=[lo "precision",lo "number",lo "radix",lo "top",lo "bottom",gl "is_real",gl "exact_text",gl "decimal_text",gl "exact_parts",gl "ratio_of"]
theorem n7:FnEnt (BB W) 775 (fb f76) ["precision","number","radix"] nN ["top","bottom"]:=.by_ (by kernel_rfl) (by kernel_rfl)
noncomputable abbrev vm:List (Str × NameKind):=[lo "figures",lo "radix",lo "found",lo "sign",gl "FIGURES_numtext"]
theorem uW:FnEnt (BB W) 782 (fb f77) ["figures","radix"] vm ["found","sign"]:=.by_ (by kernel_rfl) (by kernel_rfl)
noncomputable abbrev ms:List (Str × NameKind):=[lo "word",ce "radix",gl "all"]
noncomputable abbrev iZ:List (Str × NameKind):=[lo ".0",lo "sign",gl "FIGURES_numtext",ce "radix"]
theorem mY:FnEnt (BB W) 787 (fb f78) ["word","radix"] ms []:=.by_ (by kernel_rfl) (by kernel_rfl)
noncomputable abbrev Ab:List (Str × NameKind):=[lo "word",lo "kept",gl "len"]
theorem zu:FnEnt (BB W) 794 (fb f79) ["word"] Ab ["kept"]:=.by_ (by kernel_rfl) (by kernel_rfl)
noncomputable abbrev fW:List (Str × NameKind):=[lo "self",lo "top",lo "bottom",lo "is_exact"]
theorem gg:FnEnt (BB W) 808 (fb B9) ["self","top","bottom","is_exact"] fW []:=.by_ (by kernel_rfl) (by kernel_rfl)
noncomputable abbrev qw:List (Str × NameKind):=[lo "word",lo "radix",lo "kept",lo "many",gl "parted",gl "are_figures",gl "Reading",gl "worth_of"]
theorem oM:FnEnt (BB W) 822 (fb f81) ["word","radix"] qw ["kept","many"]:=.by_ (by kernel_rfl) (by kernel_rfl)
noncomputable abbrev px:List (Str × NameKind):=[lo "word",lo "places",gl "enumerate",gl "len"]
noncomputable abbrev jY:List (Str × NameKind):=[lo ".0",lo "place",lo "sign",gl "MARKS"]
theorem qu:FnEnt (BB W) 848 (fb f85) ["word"] px ["places"]:=.by_ (by kernel_rfl) (by kernel_rfl)
noncomputable abbrev jy:List (Str × NameKind):=[lo "word",lo "radix",gl "read_ratio",gl "mark_place",gl "len",gl "read_decimal",gl "read_whole"]
theorem jr:FnEnt (BB W) 869 (fb f88) ["word","radix"] jy []:=.by_ (by kernel_rfl) (by kernel_rfl)
noncomputable abbrev iJ:List (Str × NameKind):=[lo "word",lo "radix",lo "exactness",lo "has_radix",lo "at",lo "mark",gl "RADICES"]
theorem ir:FnEnt (BB W) 876 (fb f89) ["word","radix"] iJ ["exactness","has_radix","at","mark"]:=.by_ (by kernel_rfl) (by kernel_rfl)
noncomputable abbrev uR:List (Str × NameKind):=[lo "precision",lo "top",lo "bottom",lo "is_exact",gl "ratio_of",gl "rounded",gl "OutOfRange"]
theorem vI:FnEnt (BB W) 883 (fb f90) ["precision","top","bottom","is_exact"] uR []:=.by_ (by kernel_rfl) (by kernel_rfl)
noncomputable abbrev lp:List (Str × NameKind):=[lo "precision",lo "text",lo "radix",lo "found",lo "word",lo "exactness",lo "sign",lo "reading",lo "is_exact",gl "split_prefixes",gl "read_unsigned",gl "finished"]
theorem lR:FnEnt (BB W) 891 (fb f91) ["precision","text","radix"] lp ["found","word","exactness","sign","reading","is_exact"]:=.by_ (by kernel_rfl) (by kernel_rfl)
noncomputable abbrev iR:List (Str × NameKind):=[lo "self",lo "word",lo "value",lo "start",lo "end"]
theorem iK:FnEnt (BB W) 914 (fb w8) ["self","word","value","start","end"] iR []:=.by_ (by kernel_rfl) (by kernel_rfl)
noncomputable abbrev zR:List (Str × NameKind):=[lo "text",lo "letters",lo "letter",lo "at",gl "CAPITALS",gl "SMALL"]
theorem zv:FnEnt (BB W) 928 (fb PV) ["text"] zR ["letters","letter","at"]:=.by_ (by kernel_rfl) (by kernel_rfl)
noncomputable abbrev ui:List (Str × NameKind):=[lo "letter",gl "SMALL",gl "FIRST_SIGNS"]
theorem vM:FnEnt (BB W) 935 (fb MQ) ["letter"] ui []:=.by_ (by kernel_rfl) (by kernel_rfl)
noncomputable abbrev uo:List (Str × NameKind):=[lo "letter",gl "is_first",gl "FIGURES_lexer",gl "LATER_SIGNS"]
theorem uk:FnEnt (BB W) 942 (fb OB) ["letter"] uo []:=.by_ (by kernel_rfl) (by kernel_rfl)
noncomputable abbrev ju:List (Str × NameKind):=[lo "text",lo "letter",gl "PECULIAR",gl "is_first",gl "is_later"]
theorem bU:FnEnt (BB W) 949 (fb Od) ["text"] ju ["letter"]:=.by_ (by kernel_rfl) (by kernel_rfl)
noncomputable abbrev ke:List (Str × NameKind):=[lo "text",gl "FIGURES_lexer"]
theorem jB:FnEnt (BB W) 956 (fb NN) ["text"] ke []:=.by_ (by kernel_rfl) (by kernel_rfl)
noncomputable abbrev pb:List (Str × NameKind):=[lo "name",lo "known",lo "letter",gl "SIGN_NAMES",gl "folded"]
theorem pX:FnEnt (BB W) 963 (fb Nh) ["name"] pb ["known","letter"]:=.by_ (by kernel_rfl) (by kernel_rfl)
noncomputable abbrev kN:List (Str × NameKind):=[lo "letter",lo "known",lo "own",gl "SIGN_NAMES"]
theorem lP:FnEnt (BB W) 970 (fb Rx) ["letter"] kN ["known","own"]:=.by_ (by kernel_rfl) (by kernel_rfl)
noncomputable abbrev iQ:List (Str × NameKind):=[lo "self",lo "text",lo "precision",lo "is_folded"]
theorem jj:FnEnt (BB W) 985 (fb xy) ["self","text","precision","is_folded"] iQ []:=.by_ (by kernel_rfl) (by kernel_rfl)
noncomputable abbrev pL:List (Str × NameKind):=[lo "self",lo "letter",lo "end",gl "len",gl "BLANKS"]
theorem pG:FnEnt (BB W) 992 (fb wo) ["self"] pL ["letter","end"]:=.by_ (by kernel_rfl) (by kernel_rfl)
noncomputable abbrev mw:List (Str × NameKind):=[lo "self",lo "start",lo "letter",lo "word",gl "len",gl "Token"]
theorem fj:FnEnt (BB W) 1006 (fb wM) ["self"] mw ["start","letter","word"]:=.by_ (by kernel_rfl) (by kernel_rfl)
noncomputable abbrev ow:List (Str × NameKind):=[lo "self",lo "word",lo "value",lo "end",lo "start",gl "Token"]
theorem nY:FnEnt (BB W) 1013 (fb xA) ["self","word","value","end"] ow ["start"]:=.by_ (by kernel_rfl) (by kernel_rfl)
noncomputable abbrev jh:List (Str × NameKind):=[lo "self",lo "start",lo "at",gl "len",gl "DELIMITERS",gl "RESERVED",gl "LexError"]
theorem iX:FnEnt (BB W) 1020 (fb xm) ["self","start"] jh ["at"]:=.by_ (by kernel_rfl) (by kernel_rfl)
noncomputable abbrev gt:List (Str × NameKind):=[lo "self",lo "start",lo "end",lo "own",lo "name",gl "folded",gl "is_identifier",gl "is_numberlike",gl "LexError"]
theorem bu:FnEnt (BB W) 1027 (fb xS) ["self"] gt ["start","end","own","name"]:=.by_ (by kernel_rfl) (by kernel_rfl)
noncomputable abbrev ii:List (Str × NameKind):=[lo "self",lo "own",lo "start",lo "number",gl "parse_number",gl "LexError"]
theorem hN:FnEnt (BB W) 1034 (fb wx) ["self","own","start"] ii ["number"]:=.by_ (by kernel_rfl) (by kernel_rfl)
noncomputable abbrev nS:List (Str × NameKind):=[lo "self",lo "start",lo "second",lo "end",gl "folded",gl "PREFIXES",gl "LexError"]
theorem bM:FnEnt (BB W) 1041 (fb xq) ["self"] nS ["start","second","end"]:=.by_ (by kernel_rfl) (by kernel_rfl)
noncomputable abbrev fX:List (Str × NameKind):=[lo "self",lo "start",lo "end",lo "own",lo "letter",gl "len",gl "LexError",gl "DELIMITERS",gl "sign_named",gl "Char",gl "ord"]
theorem f8:FnEnt (BB W) 1048 (fb xI) ["self"] fX ["start","end","own","letter"]:=.by_ (by kernel_rfl) (by kernel_rfl)
noncomputable abbrev lE:List (Str × NameKind):=[lo "self",lo "start",lo "letters",lo "at",lo "letter",gl "len",gl "LexError",gl "make_text"]
theorem kW:FnEnt (BB W) 1055 (fb tU) ["self"] lE ["start","letters","at","letter"]:=.by_ (by kernel_rfl) (by kernel_rfl)
noncomputable abbrev iW:List (Str × NameKind):=[lo "self",lo "word",lo "start",lo "things",gl "NOT_DOTTED",gl "EMPTY"]
theorem je:FnEnt (BB W) 1076 (fb v9) ["self","word","start","things"] iW []:=.by_ (by kernel_rfl) (by kernel_rfl)
noncomputable abbrev cQ:List (Str × NameKind):=[lo "self",lo "text",lo "table",lo "precision",lo "is_folded",gl "Lexer"]
noncomputable abbrev lw:List (Str × NameKind):=[lo "self"]
theorem lU:FnEnt (BB W) 1105 (fb wW) ["self"] lw []:=.by_ (by kernel_rfl) (by kernel_rfl)
noncomputable abbrev nW:List (Str × NameKind):=[lo "self",lo "token",lo "datum",gl "EOF",gl "ReadError"]
theorem fc:FnEnt (BB W) 1112 (fb wY) ["self"] nW ["token","datum"]:=.by_ (by kernel_rfl) (by kernel_rfl)
noncomputable abbrev mM:List (Str × NameKind):=[lo "self",lo "datum",lo "found"]
theorem nH:FnEnt (BB W) 1119 (fb xe) ["self","datum"] mM ["found"]:=.by_ (by kernel_rfl) (by kernel_rfl)
noncomputable abbrev kY:List (Str × NameKind):=[lo "self",lo "token",lo "sign",lo "name",gl "Frame",gl "QUOTATIONS"]
theorem cg:FnEnt (BB W) 1133 (fb xY) ["self","token"] kY ["sign","name"]:=.by_ (by kernel_rfl) (by kernel_rfl)
noncomputable abbrev qb:List (Str × NameKind):=[lo "self",lo "token",lo "frame",gl "ReadError",gl "NOT_DOTTED",gl "BEHIND_DOT"]
theorem oY:FnEnt (BB W) 1140 (fb wS) ["self","token"] qb ["frame"]:=.by_ (by kernel_rfl) (by kernel_rfl)
noncomputable abbrev jv:List (Str × NameKind):=[lo "self",lo "token",lo "frame",gl "ReadError",gl "BEHIND_DOT",gl "Vector",gl "list_of"]
theorem dT:FnEnt (BB W) 1147 (fb we) ["self","token"] jv ["frame"]:=.by_ (by kernel_rfl) (by kernel_rfl)
noncomputable abbrev nX:List (Str × NameKind):=[lo "self",lo "token"]
theorem fA:FnEnt (BB W) 1154 (fb x9) ["self","token"] nX []:=.by_ (by kernel_rfl) (by kernel_rfl)
noncomputable abbrev gx:List (Str × NameKind):=[lo "self",lo "datum",lo "start",lo "found",lo "at",lo "frame",gl "len",gl "HAS_TAIL",gl "ReadError",gl "BEHIND_DOT"]
theorem br:FnEnt (BB W) 1161 (fb wX) ["self","datum","start"] gx ["found","at","frame"]:=.by_ (by kernel_rfl) (by kernel_rfl)
noncomputable abbrev l9:List (Str × NameKind):=[lo "code",lo "name",gl "name_of_sign",gl "chr"]
theorem lJ:FnEnt (BB W) 1182 (fb OM) ["code"] l9 ["name"]:=.by_ (by kernel_rfl) (by kernel_rfl)
noncomputable abbrev iz:List (Str × NameKind):=[lo "text",lo "found",lo "letter",gl "python_text"]
theorem ip:FnEnt (BB W) 1189 (fb Rj) ["text"] iz ["found","letter"]:=.by_ (by kernel_rfl) (by kernel_rfl)
noncomputable abbrev oS:List (Str × NameKind):=[lo "datum",gl "isinstance",gl "Special",gl "Procedure",gl "Promise",gl "Box",gl "PortRef"]
theorem pU:FnEnt (BB W) 1196 (fb Rs) ["datum"] oS []:=.by_ (by kernel_rfl) (by kernel_rfl)
noncomputable abbrev fR:List (Str × NameKind):=[lo "self",lo "is_written",lo "precision",lo "radix",lo "limit",lo "table"]
theorem gh:FnEnt (BB W) 1210 (fb wp) ["self","is_written","precision","radix","limit","table"] fR []:=.by_ (by kernel_rfl) (by kernel_rfl)
noncomputable abbrev lC:List (Str × NameKind):=[lo "self",lo "datum",lo "word",lo "thing",gl "DATUM",gl "PIECE"]
theorem lM:FnEnt (BB W) 1217 (fb xV) ["self","datum"] lC ["word","thing"]:=.by_ (by kernel_rfl) (by kernel_rfl)
noncomputable abbrev mL:List (Str × NameKind):=[lo "self",lo "piece",gl "len",gl "TooLong"]
theorem m9:FnEnt (BB W) 1224 (fb w9) ["self","piece"] mL []:=.by_ (by kernel_rfl) (by kernel_rfl)
noncomputable abbrev jo:List (Str × NameKind):=[lo "self",lo "thing",lo "place",gl "isinstance",gl "Pair",gl "Vector",gl "PIECE",gl "range",gl "len",gl "DATUM"]
theorem bO:FnEnt (BB W) 1231 (fb xG) ["self","thing"] jo ["place"]:=.by_ (by kernel_rfl) (by kernel_rfl)
noncomputable abbrev lm:List (Str × NameKind):=[lo "self",lo "thing",lo "sign",gl "quotation_sign",gl "DATUM",gl "TAIL"]
theorem kS:FnEnt (BB W) 1238 (fb xN) ["self","thing"] lm ["sign"]:=.by_ (by kernel_rfl) (by kernel_rfl)
noncomputable abbrev lg:List (Str × NameKind):=[lo "self",lo "thing",gl "EMPTY",gl "isinstance",gl "Pair",gl "TAIL",gl "DATUM",gl "PIECE"]
theorem cc:FnEnt (BB W) 1245 (fb wy) ["self","thing"] lg []:=.by_ (by kernel_rfl) (by kernel_rfl)
noncomputable abbrev kJ:List (Str × NameKind):=[lo "self",lo "thing",lo "found",gl "is_boolean",gl "EMPTY",gl "isinstance",gl "Symbol",gl "Text",gl "written_string",gl "python_text",gl "Char",gl "written_sign",gl "chr",gl "other_text",gl "number_text"]
theorem k6:FnEnt (BB W) 1252 (fb wk) ["self","thing"] kJ ["found"]:=.by_ (by kernel_rfl) (by kernel_rfl)
noncomputable abbrev gB:List (Str × NameKind):=[lo "datum",lo "precision",lo "radix",lo "limit",lo "table",gl "Printer"]
noncomputable abbrev gN:List (Str × NameKind):=[lo "self",lo "codes"]
theorem gY:FnEnt (BB W) 1281 (fb vW) ["self","codes"] gN []:=.by_ (by kernel_rfl) (by kernel_rfl)
noncomputable abbrev gi:List (Str × NameKind):=[lo "self",gl "len"]
theorem fS:FnEnt (BB W) 1288 (fb wz) ["self"] gi []:=.by_ (by kernel_rfl) (by kernel_rfl)
noncomputable abbrev f5:List (Str × NameKind):=[lo "self",gl "text_of_codes"]
theorem fT:FnEnt (BB W) 1295 (fb wJ) ["self"] f5 []:=.by_ (by kernel_rfl) (by kernel_rfl)
noncomputable abbrev fU:List (Str × NameKind):=[lo "self",lo "codes"]
theorem f7:FnEnt (BB W) 1316 (fb xU) ["self","codes"] fU []:=.by_ (by kernel_rfl) (by kernel_rfl)
noncomputable abbrev mI:List (Str × NameKind):=[lo "self",lo "codes"]
theorem mK:FnEnt (BB W) 1323 (fb wO) ["self","codes"] mI []:=.by_ (by kernel_rfl) (by kernel_rfl)
noncomputable abbrev eP:List (Str × NameKind):=[lo "self",gl "OutPort",gl "InPort",gl "OUTPUT",gl "INPUT"]
theorem eU:FnEnt (BB W) 1344 (fb wN) ["self"] eP []:=.by_ (by kernel_rfl) (by kernel_rfl)
noncomputable abbrev l4:List (Str × NameKind):=[lo "self",lo "number"]
theorem ll:FnEnt (BB W) 1351 (fb x6) ["self","number"] l4 []:=.by_ (by kernel_rfl) (by kernel_rfl)
noncomputable abbrev gm:List (Str × NameKind):=[lo "self",lo "port",gl "len"]
theorem gw:FnEnt (BB W) 1358 (fb v5) ["self","port"] gm []:=.by_ (by kernel_rfl) (by kernel_rfl)
noncomputable abbrev xo:List (Str × NameKind):=[lo "world",lo "store",lo "value"]
theorem vZ:FnEnt (BB W) 1421 (fb Ou) ["world","store","value"] xo []:=.by_ (by kernel_rfl) (by kernel_rfl)
noncomputable abbrev jx:List (Str × NameKind):=[lo "world",lo "store",lo "name",lo "place",lo "value",lo "is_input",lo "port",gl "port_of",gl "need"]
theorem dM:FnEnt (BB W) 1428 (fb Oy) ["world","store","name","place","value","is_input"] jx ["port"]:=.by_ (by kernel_rfl) (by kernel_rfl)
noncomputable abbrev jQ:List (Str × NameKind):=[lo "world",lo "store",lo "name",lo "place",lo "value",lo "is_input",lo "port",gl "port_argument",gl "need"]
theorem dJ:FnEnt (BB W) 1435 (fb Ms) ["world","store","name","place","value","is_input"] jQ ["port"]:=.by_ (by kernel_rfl) (by kernel_rfl)
noncomputable abbrev rb:List (Str × NameKind):=[lo "world",lo "store",lo "name",lo "args",lo "place",lo "value",gl "len",gl "open_argument"]
theorem si:FnEnt (BB W) 1442 (fb NE) ["world","store","name","args","place"] rb ["value"]:=.by_ (by kernel_rfl) (by kernel_rfl)
noncomputable abbrev qr:List (Str × NameKind):=[lo "world",lo "store",lo "name",lo "args",lo "place",lo "value",gl "len",gl "open_argument"]
theorem pw:FnEnt (BB W) 1449 (fb Qt) ["world","store","name","args","place"] qr ["value"]:=.by_ (by kernel_rfl) (by kernel_rfl)
noncomputable abbrev da:List (Str × NameKind):=[lo "world",lo "store",lo "args",lo "codes",gl "string_codes",gl "string_argument",gl "InPort"]
theorem dj:FnEnt (BB W) 1456 (fb O0) ["world","store","args"] da ["codes"]:=.by_ (by kernel_rfl) (by kernel_rfl)
noncomputable abbrev cP:List (Str × NameKind):=[lo "world",lo "store",lo "args",gl "OutPort"]
theorem cX:FnEnt (BB W) 1463 (fb NG) ["world","store","args"] cP []:=.by_ (by kernel_rfl) (by kernel_rfl)
noncomputable abbrev de:List (Str × NameKind):=[lo "world",lo "store",lo "args",lo "port",gl "port_argument",gl "list"]
theorem dh:FnEnt (BB W) 1470 (fb Qb) ["world","store","args"] de ["port"]:=.by_ (by kernel_rfl) (by kernel_rfl)
noncomputable abbrev tO:List (Str × NameKind):=[lo "world",lo "store",lo "args",lo "port",lo "reader",lo "datum",gl "input_for",gl "Reader",gl "EOF"]
theorem iH:FnEnt (BB W) 1477 (fb Nv) ["world","store","args"] tO ["port","reader","datum"]:=.by_ (by kernel_rfl) (by kernel_rfl)
noncomputable abbrev nz:List (Str × NameKind):=[lo "store",lo "code"]
theorem mV:FnEnt (BB W) 1484 (fb MK) ["store","code"] nz []:=.by_ (by kernel_rfl) (by kernel_rfl)
noncomputable abbrev iS:List (Str × NameKind):=[lo "world",lo "store",lo "args",lo "port",lo "code",gl "input_for",gl "char_or_end"]
theorem ik:FnEnt (BB W) 1491 (fb Ob) ["world","store","args"] iS ["port","code"]:=.by_ (by kernel_rfl) (by kernel_rfl)
noncomputable abbrev iM:List (Str × NameKind):=[lo "world",lo "store",lo "args",gl "char_or_end",gl "input_for"]
theorem i7:FnEnt (BB W) 1498 (fb N2) ["world","store","args"] iM []:=.by_ (by kernel_rfl) (by kernel_rfl)
noncomputable abbrev pN:List (Str × NameKind):=[lo "world",lo "store",lo "args",lo "port",lo "text",gl "output_for",gl "write_text",gl "RADIX",gl "codes_of_text"]
theorem pO:FnEnt (BB W) 1505 (fb Ni) ["world","store","args"] pN ["port","text"]:=.by_ (by kernel_rfl) (by kernel_rfl)
noncomputable abbrev lK:List (Str × NameKind):=[lo "world",lo "store",lo "args",gl "output_for",gl "LINE_END"]
theorem lN:FnEnt (BB W) 1512 (fb Pb) ["world","store","args"] lK []:=.by_ (by kernel_rfl) (by kernel_rfl)
noncomputable abbrev hO:List (Str × NameKind):=[lo "world",lo "store",lo "args",lo "code",gl "char_argument",gl "output_for"]
theorem gV:FnEnt (BB W) 1519 (fb MJ) ["world","store","args"] hO ["code"]:=.by_ (by kernel_rfl) (by kernel_rfl)
noncomputable abbrev dS:List (Str × NameKind):=[lo "self",lo "table"]
theorem dH:FnEnt (BB W) 1533 (fb wd) ["self","table"] dS []:=.by_ (by kernel_rfl) (by kernel_rfl)
noncomputable abbrev cM:List (Str × NameKind):=[lo "self",gl "UNSPECIFIED"]
theorem cF:FnEnt (BB W) 1575 (fb wL) ["self"] cM []:=.by_ (by kernel_rfl) (by kernel_rfl)
noncomputable abbrev gP:List (Str × NameKind):=[lo "self",gl "EOF"]
theorem hZ:FnEnt (BB W) 1596 (fb xc) ["self"] gP []:=.by_ (by kernel_rfl) (by kernel_rfl)
noncomputable abbrev eO:List (Str × NameKind):=[lo "self",lo "value",gl "EOF"]
theorem eY:FnEnt (BB W) 1603 (fb sJ) ["self","value"] eO []:=.by_ (by kernel_rfl) (by kernel_rfl)
noncomputable abbrev gn:List (Str × NameKind):=[lo "self",lo "first",lo "rest",gl "Pair"]
theorem fV:FnEnt (BB W) 1610 (fb sC) ["self","first","rest"] gn []:=.by_ (by kernel_rfl) (by kernel_rfl)
noncomputable abbrev gp:List (Str × NameKind):=[lo "self",lo "code",gl "Char"]
theorem gy:FnEnt (BB W) 1673 (fb tz) ["self","code"] gp []:=.by_ (by kernel_rfl) (by kernel_rfl)
noncomputable abbrev eu:List (Str × NameKind):=[lo "self",lo "value",gl "isinstance",gl "Char"]
theorem dZ:FnEnt (BB W) 1680 (fb sX) ["self","value"] eu []:=.by_ (by kernel_rfl) (by kernel_rfl)
noncomputable abbrev dr:List (Str × NameKind):=[lo "self",lo "char"]
theorem dq:FnEnt (BB W) 1687 (fb rF) ["self","char"] dr []:=.by_ (by kernel_rfl) (by kernel_rfl)
noncomputable abbrev eH:List (Str × NameKind):=[lo "self",lo "codes",gl "Text",gl "list"]
theorem eR:FnEnt (BB W) 1694 (fb t5) ["self","codes"] eH []:=.by_ (by kernel_rfl) (by kernel_rfl)
noncomputable abbrev dA:List (Str × NameKind):=[lo "self",lo "value",gl "isinstance",gl "Text"]
theorem dC:FnEnt (BB W) 1701 (fb so) ["self","value"] dA []:=.by_ (by kernel_rfl) (by kernel_rfl)
noncomputable abbrev ch:List (Str × NameKind):=[lo "self",lo "string",gl "len"]
theorem cf:FnEnt (BB W) 1708 (fb sZ) ["self","string"] ch []:=.by_ (by kernel_rfl) (by kernel_rfl)
noncomputable abbrev cT:List (Str × NameKind):=[lo "self",lo "string",lo "place"]
theorem cN:FnEnt (BB W) 1715 (fb tm) ["self","string","place"] cT []:=.by_ (by kernel_rfl) (by kernel_rfl)
noncomputable abbrev eQ:List (Str × NameKind):=[lo "self",lo "items",gl "Vector",gl "list"]
theorem eN:FnEnt (BB W) 1729 (fb rA) ["self","items"] eQ []:=.by_ (by kernel_rfl) (by kernel_rfl)
noncomputable abbrev fP:List (Str × NameKind):=[lo "self",lo "number",gl "PortRef"]
theorem gb:FnEnt (BB W) 1841 (fb re) ["self","number"] fP []:=.by_ (by kernel_rfl) (by kernel_rfl)
noncomputable abbrev d8:List (Str × NameKind):=[lo "self",lo "value",gl "isinstance",gl "PortRef"]
theorem d9:FnEnt (BB W) 1848 (fb tN) ["self","value"] d8 []:=.by_ (by kernel_rfl) (by kernel_rfl)
noncomputable abbrev cY:List (Str × NameKind):=[lo "self",lo "port"]
theorem cI:FnEnt (BB W) 1855 (fb tD) ["self","port"] cY []:=.by_ (by kernel_rfl) (by kernel_rfl)
noncomputable abbrev fm:List (Str × NameKind):=[lo "self",lo "value"]
theorem ff:FnEnt (BB W) 1876 (fb rZ) ["self","value"] fm []:=.by_ (by kernel_rfl) (by kernel_rfl)
noncomputable abbrev di:List (Str × NameKind):=[lo "self",lo "datum"]
theorem dg:FnEnt (BB W) 1883 (fb rX) ["self","datum"] di []:=.by_ (by kernel_rfl) (by kernel_rfl)
noncomputable abbrev ij:List (Str × NameKind):=[lo "self",gl "SymbolTable"]
theorem iL:FnEnt (BB W) 1904 (fb wB) ["self"] ij []:=.by_ (by kernel_rfl) (by kernel_rfl)
noncomputable abbrev lG:List (Str × NameKind):=[lo "self",lo "text"]
theorem kZ:FnEnt (BB W) 1918 (fb wm) ["self","text"] lG []:=.by_ (by kernel_rfl) (by kernel_rfl)
noncomputable abbrev gf:List (Str × NameKind):=[lo "self",lo "precision",lo "patience",gl "Names",gl "PortTable"]
theorem gu:FnEnt (BB W) 1989 (fb wP) ["self","precision","patience"] gf []:=.by_ (by kernel_rfl) (by kernel_rfl)
noncomputable abbrev pC:List (Str × NameKind):=[lo "script",gl "len"]
noncomputable abbrev j2:List (Str × NameKind):=[lo ".0",lo "cell",gl "abs"]
theorem pP:FnEnt (BB W) 2006 (fb Qq) ["script"] pC []:=.by_ (by kernel_rfl) (by kernel_rfl)
noncomputable abbrev ql:List (Str × NameKind):=[lo "deck",lo "many",lo "mixed",gl "len"]
theorem p8:FnEnt (BB W) 2013 (fb OH) ["deck","many"] ql ["mixed"]:=.by_ (by kernel_rfl) (by kernel_rfl)
noncomputable abbrev qh:List (Str × NameKind):=[ce "deck",lo "way",gl "_law_draw",gl "range"]
noncomputable abbrev jZ:List (Str × NameKind):=[lo ".0",lo "turn",gl "_law_draw",ce "deck"]
theorem pp:FnEnt (BB W) 2018 (fb O8) ["deck"] qh ["way"]:=.by_ (by kernel_rfl) (by kernel_rfl)
noncomputable abbrev qo:List (Str × NameKind):=[ce "deck",ce "deep",lo "way",lo "things",lo "end",gl "_law_draw",gl "_law_leaf",gl "range"]
noncomputable abbrev jH:List (Str × NameKind):=[lo ".0",lo "turn",gl "_law_tree",ce "deck",ce "deep"]
theorem gK:FnEnt (BB W) 2023 (fb Qn) ["deck","deep"] qo ["way","things","end"]:=.by_ (by kernel_rfl) (by kernel_rfl)
noncomputable abbrev p9:List (Str × NameKind):=[ce "setting",ce "store",lo "tree",lo "word",lo "parts",lo "found",lo "part",gl "list",gl "EMPTY",gl "_law_made"]
noncomputable abbrev dL:List (Str × NameKind):=[lo ".0",lo "own",gl "_law_made",ce "setting",ce "store"]
theorem dz:FnEnt (BB W) 2028 (fb Nk) ["setting","store","tree"] p9 ["word","parts","found","part"]:=.by_ (by kernel_rfl) (by kernel_rfl)
noncomputable abbrev jI:List (Str × NameKind):=[ce "setting",lo "value",lo "tree",lo "word",lo "own",gl "isinstance",gl "int",gl "bool",gl "Symbol",gl "Text",gl "list",gl "Char",gl "Vector",gl "len",gl "all",gl "zip",gl "Pair",gl "_law_is_like",gl "EMPTY"]
noncomputable abbrev gA:List (Str × NameKind):=[lo ".0",lo "one",lo "other",gl "_law_is_like",ce "setting"]
theorem bQ:FnEnt (BB W) 2033 (fb Q1) ["setting","value","tree"] jI ["word","own"]:=.by_ (by kernel_rfl) (by kernel_rfl)
noncomputable abbrev sH:List (Str × NameKind):=[lo "deck",lo "setting",lo "store",lo "port",lo "way",gl "_law_draw",gl "prim_write_char",gl "prim_newline"]
theorem ry:FnEnt (BB W) 2040 (fb NW) ["deck","setting","store","port"] sH ["way"]:=.by_ (by kernel_rfl) (by kernel_rfl)
noncomputable abbrev j0:List (Str × NameKind):=[lo "setting",lo "store",lo "port",ce "code",lo "told",gl "prim_peek_char",gl "prim_read_char",gl "all"]
noncomputable abbrev gz:List (Str × NameKind):=[lo ".0",lo "own",gl "isinstance",gl "Char",ce "code"]
theorem jF:FnEnt (BB W) 2045 (fb Ra) ["setting","store","port","code"] j0 ["told"]:=.by_ (by kernel_rfl) (by kernel_rfl)
noncomputable abbrev nR:List (Str × NameKind):=[lo "script",lo "deck",lo "setting",lo "store",lo "port",lo "rows",lo "turn",lo "tree",lo "whole",lo "seen",lo "reading",lo "signs",lo "code",gl "_law_deck",gl "Setting",gl "ObjectStore",gl "prim_open_output_string",gl "range",gl "_law_draw",gl "_law_tree",gl "prim_write",gl "_law_made",gl "_law_put",gl "prim_get_output_string",gl "list",gl "prim_open_input_string",gl "_law_is_like",gl "prim_read",gl "_law_is_next"]
theorem Qw:FnEnt (BB W) 2052 (fb z1) ["script"] nR ["deck","setting","store","port","rows","turn","tree","whole","seen","reading","signs","code"]:=.by_ (by kernel_rfl) (by kernel_rfl)
end
section
set_option bootstrap.genMatcherCode false
section
variable {B:Base} {n:Nat} {H:HS} {sc:List (Str × NameKind)} {loc:Loc} {Q:AV→HS→Prop} {C fI:Addr} {flds:List Str}
noncomputable def cO (B:Base) (n:Nat) (o:AV) (x:Str) (H:HS) (R:Value→List AV→HS→Prop):Prop:=ee B n o x H fun fx H=>R fx.1 fx.2 H
theorem Xr {o:Expr} {name:Str} {apos pos:Pos} (h:EV B n sc loc H o fun ov H1=>cO B n ov name H1 fun f fs H2=>bK B f∧ac B n f fs H2 Q)
  (he:∀ env,∃ pl,eval (.Call (.Attribute o name apos) [] [] pos) env = (do
   let ov ← eval o env
   standAt apos.atName
   let (f,first) ← holding [ov] (getMethod ov name pl)
   callWith pos f first (backTo pos (starEach [] env)) [])):EV B n sc loc H (.Call (.Attribute o name apos) [] [] pos) Q:=xX h he
theorem Zh {o e:Expr} {name:Str} {args:List Expr} {apos pos:Pos}
  (h:EV B n sc loc H o fun ov H1=>cO B n ov name H1 fun f fs H2=>bK B f∧EVs B n sc loc H2 pos (e :: args) fun as H3=>ac B n f (fs++as) H3 Q)
  (he:∀ env,∃ pl,eval (.Call (.Attribute o name apos) (e :: args) [] pos) env = (do
   let ov ← eval o env
   standAt apos.atName
   let (f,first) ← holding [ov] (getMethod ov name pl)
   callWith pos f first (backTo pos (starEach (e :: args) env)) []))
  (hs:∀ env,starEach (e :: args) env = (e :: args).map fun e=>(false,eval e env)):EV B n sc loc H (.Call (.Attribute o name apos) (e :: args) [] pos) Q:=zU h he hs
section
variable {R:Value→List AV→HS→Prop}
theorem XN {i:Nat} {fs:List (Str × AV)} {x:Str} {f:Addr} (mt:MethOk B C x f) (hc:ClsOk B C fI flds) (hi:H[i]? = some (.inst C fs)) (hk:fs.map (fun zz=>zz.1) = flds) (h:R (.ref f) [.cell i] H):cO B n (.cell i) x H R:=MC mt hc hi hk h
theorem Ym {vs:List AV} {x:Str} {f:Addr} (mt:MethOk B C x f) (hc:ClsOk B C fI flds) (h:R (.ref f) [.obj C flds vs] H):cO B n (.obj C flds vs) x H R:=NS mt hc h
theorem RQ {k:Nat} {xs:List AV} (hk:H[k]? = some (.list xs)) (h:R (.builtin "list.append") [.cell k] H):cO B n (.cell k) "append" H R:=DM hk h
theorem Yp {k:Nat} {xs:List AV} (hk:H[k]? = some (.list xs)) (h:R (.builtin "list.pop") [.cell k] H):cO B n (.cell k) "pop" H R:=V9 hk h
theorem RR {k:Nat} {xs:List AV} (hk:H[k]? = some (.list xs)) (h:R (.builtin "list.extend") [.cell k] H):cO B n (.cell k) "extend" H R:=D4 hk h
theorem XH {k:Nat} {kvs:List (Str × AV)} (hk:H[k]? = some (.dict kvs)) (h:R (.builtin "dict.get") [.cell k] H):cO B n (.cell k) "get" H R:=xW hk h
theorem XG {x:List Nat} (h:R (.builtin "str.find") [.str x] H):cO B n (.str x) "find" H R:=m_find h
theorem RW {x:List Nat} (h:R (.builtin "str.index") [.str x] H):cO B n (.str x) "index" H R:=FJ h
theorem XM {x:List Nat} (h:R (.builtin "str.join") [.str x] H):cO B n (.str x) "join" H R:=NJ h
theorem Ve {x:List Nat} (h:R (.builtin "str.lower") [.str x] H):cO B n (.str x) "lower" H R:=m_lower h
theorem RP {x:List Nat} (h:R (.builtin "str.rstrip") [.str x] H):cO B n (.str x) "rstrip" H R:=m_rstrip h
end
theorem RO {k:Nat} {xs:List AV} {a:AV} (hk:H[k]? = some (.list xs)) (hz:xs.length≤100000) (h:Q .none (H.set k (.list (xs++[a])))):ac B n (.builtin "list.append") [.cell k,a] H Q:=fun A hp F s vs hA R hv=>by
 refine E2 hv fun v w h1 h2=>?_
 exact uV hk hz h A hp F s [v,w] hA R (.cons h1 (.cons h2 .nil))
theorem ZX {x:AV} {xs:List AV} (hx:LS H x xs) (h:Q (.bool xs.isEmpty) H):CMP B n .Eq x (.lst []) H Q:=by
 cases xs with
 | nil=>exact OP hx .lst h
 | cons a as=>exact Qd hx .lst (by simp) h
theorem ZQ {x:AV} {xs:List AV} (hx:LS H x xs) (h:Q (.bool (!xs.isEmpty)) H):CMP B n .NotEq x (.lst []) H Q:=by
 cases xs with
 | nil=>exact M9 hx .lst h
 | cons a as=>exact Mt hx .lst (by simp) h
end
end
section
set_option bootstrap.genMatcherCode false
variable {B:Base} {n:Nat} {sc sc':List (Str × NameKind)} {loc:Loc} {H:HS}
theorem rx {t:Str} {a:AV} {o:Option AV}:∀ {l:Loc},Up t a (l++[(t,o)]) (l++[(t,some a)])
 | []=>.head
 | _ :: _=>.tail rx
theorem u4 {elt iter:Expr} {tp pos:Pos} {t:Str} {scope:Scope} {fr:List (Str × AV)} {Q:AV→HS→Prop} (ok:CompOk scope sc loc sc' (cu fr [t])) (ht:(t,NameKind.local) ∈ sc')
  (h:ITV B n sc loc H (.Name t tp) iter fun nxt H1=>∃ (xs:List AV) (I:Nat→List AV→HS→Prop),xs.length≤100000∧I 0 [] (H1++[.list []])∧(∀ i ys H2,I i ys H2→H2[H1.length]? = some (.list ys)→nxt i H2 = some xs[i]?∧∀ a,xs[i]? = some a →
    EV B n sc' (fr.map (fun p=>(p.1,some p.2))++[(t,some a)]) H2 elt fun y H4=>H4[H1.length]? = some (.list ys)∧I (i + 1) (ys++[y]) (H4.set H1.length (.list (ys++[y]))))∧∀ ys H2,I xs.length ys H2→H2[H1.length]? = some (.list ys)→Q (.cell H1.length) H2)
  (hs:autoParam (∀ env x,foldedSetIterable iter env x = pure x) bD):EV B n sc loc H (.ListComp elt [⟨.Name t tp,iter,[],0⟩] scope pos) Q:=by
 refine kz ok (fun A hp F s env hA R=>wpAny_mono (h A hp F s env hA R) (fun x s1 h1=>wpAny_mono h1 ?_ fun zz zz e=>e) fun zz zz e=>e) hs
 rintro it s2 ⟨F',H1,ps,J1,J2,nxt,g,R1,P1,S,i0,xs,I,hz,z0,st,fin⟩
 refine ⟨F',H1,ps,J1,J2,nxt,g,R1,P1,S,i0,fun i l H2=>i≤xs.length∧∃ ys o,ys.length = i∧l = fr.map (fun p=>(p.1,some p.2))++[(t,o)]∧I i ys H2∧H2[H1.length]? = some (.list ys),xs.length,⟨Nat.zero_le _,[],none,rfl,rfl,z0,aB⟩,?_⟩
 rintro i l H2 ⟨hi,ys,o,hl,rfl,k,e⟩
 obtain ⟨hn,q⟩:=st i ys H2 k e
 rw [hn]
 cases hx:xs[i]? with
 | none =>
  have:i = xs.length:=Nat.le_antisymm hi (List.getElem?_eq_none_iff.mp hx)
  subst this
  exact fin ys H2 k e
 | some a =>
  have hlt:i < xs.length:=(List.getElem?_eq_some_iff.mp hx).1
  refine ⟨hlt,_,.name ht rx,?_⟩
  simp only [gG,if_true]
  refine FV.mono (q a hx) ?_
  rintro y H4 ⟨e4,i4⟩
  exact ⟨ys,e4,by lia,hlt,ys++[y],some a,by simp [hl],rfl,i4,aj e4⟩
theorem bG {elt iter:Expr} {tp pos:Pos} {t:Str} {scope:Scope} {fr:List (Str × AV)} {Q:AV→HS→Prop} (ok:CompOk scope sc loc sc' (cu fr [t])) (ht:(t,NameKind.local) ∈ sc')
  (h:ITV B n sc loc H (.Name t tp) iter fun nxt H1=>∃ (xs:List AV) (f:AV→AV),xs.length≤100000∧(∀ i (J:HS),nxt i (H1++J) = some xs[i]?)∧(∀ a J,a ∈ xs→EV B n sc' (fr.map (fun p=>(p.1,some p.2))++[(t,some a)]) (H1++[J]) elt fun y H4=>y = f a∧H4 = H1++[J])∧Q (.cell H1.length) (H1++[.list (xs.map f)]))
  (hs:autoParam (∀ env x,foldedSetIterable iter env x = pure x) bD):EV B n sc loc H (.ListComp elt [⟨.Name t tp,iter,[],0⟩] scope pos) Q:=by
 refine u4 ok ht (fun A hp F s env hA R=>wpAny_mono (h A hp F s env hA R) (fun x s1 h1=>wpAny_mono h1 ?_ fun zz zz e=>e) fun zz zz e=>e) hs
 rintro it s2 ⟨F',H1,ps,J1,J2,nxt,g,R1,P1,S,i0,xs,f,hz,nx,el,q⟩
 refine ⟨F',H1,ps,J1,J2,nxt,g,R1,P1,S,i0,xs,fun i ys H2=>ys = (xs.take i).map f∧H2 = H1++[.list ys],hz,⟨rfl,rfl⟩,?_,?_⟩
 ·rintro i ys H2 ⟨hy,rfl⟩ e
  refine ⟨nx _ _,fun a ha=>FV.mono (el a _ (List.mem_of_getElem? ha)) ?_⟩
  rintro y H4 ⟨rfl,rfl⟩
  refine ⟨e,?_,aq⟩
  rw [List.take_add_one,ha,hy]
  simp
 ·rintro ys H2 ⟨rfl,rfl⟩ _
  rw [List.take_length]
  exact q
theorem FS {op:CmpOp} {a:AV} {pos:Pos} {Q:AV→HS→Prop} (h:CMP B n op a (.lst []) H Q):EV B n sc loc H (.List [] pos) (fun b H2=>CMP B n op a b H2 Q):=ve (aU ⟨by decide,h⟩)
noncomputable def Cx (B:Base) (n:Nat) (sc:List (Str × NameKind)) (target:Expr) (body:List Stmt) (Q:AF→Loc→HS→Prop):List AV→Loc→HS→Prop
 | [],loc,H=>Q .next loc H
 | a :: xs,loc,H=>∃ loc',Tgt sc target a loc loc'∧XS B n sc loc' H body fun f loc2 H2=>match f with
   | .next | .cont=>Cx B n sc target body Q xs loc2 H2
   | .brk=>Q .next loc2 H2
   | .ret a=>Q (.ret a) loc2 H2
theorem E9 {B:Base} {sc:List (Str × NameKind)} {loc:Loc} {target iter:Expr} {body:List Stmt} {pos:Pos} {Q:AF→Loc→HS→Prop}
  (h:EV B n sc loc H iter fun a H1=>∃ xs,a = .tup xs∧Cx B n sc target body Q xs loc H1)
  (hs:autoParam (∀ env x,foldedSetIterable iter env x = pure x) bD):XO B n sc loc H (.For target iter body [] pos) Q:=by
 refine xv (Pz (FV.mono h ?_)) hs
 rintro a H1 ⟨xs,rfl,q⟩
 refine ⟨xs,rfl,fun i loc H=>Cx B n sc target body Q (xs.drop i) loc H,xs.length,q,fun i loc H p'=>?_⟩
 have p:Cx B n sc target body Q (xs.drop i) loc H:=p'
 clear p'
 unfold ut
 cases hx:xs[i]? with
 | none =>
  have:xs.length≤i:=List.getElem?_eq_none_iff.mp hx
  rw [List.drop_eq_nil_of_le this] at p
  exact p
 | some a =>
  obtain ⟨hlt,e⟩:=List.getElem?_eq_some_iff.mp hx
  rw [List.drop_eq_getElem_cons hlt,e] at p
  obtain ⟨loc',t,q⟩:=p
  refine ⟨hlt,loc',t,q⟩
end
section
set_option bootstrap.genMatcherCode false
inductive L (p:Prop):Prop
 | of (h:p):L p
theorem L.out {p:Prop}:L p→p
 | .of h=>h
structure GT where
 x:Str
 a:AV
 keep:Bool
structure TB where
 g:List GT
 k:List Nat
noncomputable def sel {α:Sort _} (b:Bool) (x y:α):α:=match b with
 | true=>x
 | false=>y
theorem cp {b:Bool} {x y:Prop} (h:sel b x y):(b = true∧x) ∨ (b = false∧y):=by
 cases b with
 | true=>exact .inl ⟨rfl,h⟩
 | false=>exact .inr ⟨rfl,h⟩
theorem jX {α:Type} {b:Bool} {x y z:α} (h:sel b x y = z):(b = true∧x = z) ∨ (b = false∧y = z):=by
 cases b with
 | true=>exact .inl ⟨rfl,h⟩
 | false=>exact .inr ⟨rfl,h⟩
noncomputable def oB {α:Type} {β:Sort _} (o:Option α) (k:α→β) (z:β):β:=match o with
 | some a=>k a
 | none=>z
theorem rn {α:Type} {o:Option α} {k:α→Prop} {z:Prop} (h:oB o k z):(∃ a,o = some a∧k a) ∨ (o = none∧z):=by
 cases o with
 | some a=>exact .inl ⟨a,rfl,h⟩
 | none=>exact .inr ⟨rfl,h⟩
noncomputable def MO (a:Nat):List Nat→Bool
 | []=>false
 | b :: l=>sel (Nat.beq a b) true (MO a l)
noncomputable def Cv (f:Value) (l:List Nat):Bool:=match f with
 | .builtin _=>true
 | .type _=>true
 | .ref a=>MO a l
 | _=>false
structure TB.Ok (B:Base) (T:TB):Prop where
 g:∀ p ∈ T.g,GA B p.x p.a
 k:∀ a ∈ T.k,bK B (.ref a)
theorem vw {a:Nat}:∀ {l:List Nat},MO a l = true→a ∈ l
 | b :: l,h=>by
  rcases jX h with ⟨e,_⟩ | ⟨_,h⟩
  ·rw [Nat.eq_of_beq_eq_true e]; exact .head _
  ·exact .tail _ (vw h)
theorem vE {B:Base} {T:TB} (ok:T.Ok B) {f:Value} (h:Cv f T.k = true):bK B f:=by
 cases f with
 | builtin=>exact iC
 | type=>exact qQ
 | ref a=>exact ok.k _ (vw h)
 | _=>cases h
noncomputable def lk (x:Str):Loc→Option AV
 | []=>none
 | p :: l=>sel (x == p.1) p.2 (lk x l)
theorem BH {x:Str} {a:AV}:∀ {l:Loc},lk x l = some a→(x,some a) ∈ l
 | (y,b) :: l,h=>by
  rcases jX h with ⟨e,h⟩ | ⟨_,h⟩
  ·have h:b = some a:=h
   rw [eq_of_beq e,h]; exact .head _
  ·exact .tail _ (BH h)
noncomputable def ig (k:NameKind) (x:Str):List (Str × NameKind)→Bool
 | []=>false
 | p :: l=>sel (x == p.1) (k == p.2) (ig k x l)
theorem bP {k:NameKind} {x:Str}:∀ {l:List (Str × NameKind)},ig k x l = true→(x,k) ∈ l
 | (y,j) :: l,h=>by
  rcases jX h with ⟨e,h⟩ | ⟨_,h⟩
  ·rw [eq_of_beq e,eq_of_beq h]; exact .head _
  ·exact .tail _ (bP h)
noncomputable def lkT (x:Str):List GT→Option GT
 | []=>none
 | p :: l=>sel (x == p.x) (some p) (lkT x l)
theorem tu {x:Str} {p:GT}:∀ {l:List GT},lkT x l = some p→p ∈ l∧x = p.x
 | q :: l,h=>by
  rcases jX h with ⟨e,h⟩ | ⟨_,h⟩
  ·cases h; exact ⟨.head _,eq_of_beq e⟩
  ·exact ⟨.tail _ (tu h).1,(tu h).2⟩
noncomputable def upC (x:Str) (a:AV):Loc→(Loc→Prop)→Prop→Prop
 | [],_,z=>z
 | (y,b) :: l,k,z=>sel (x == y) (k ((y,some a) :: l)) (upC x a l (fun l'=>k ((y,b) :: l')) z)
theorem v7 {x:Str} {a:AV} {z:Prop}:∀ {l:Loc} {k:Loc→Prop},upC x a l k z→(∃ l',Up x a l l'∧k l') ∨ z
 | [],_,h=>.inr h
 | (y,b) :: l,k,h=>by
  rcases cp h with ⟨e,h⟩ | ⟨_,h⟩
  ·obtain rfl:=eq_of_beq e; exact .inl ⟨_,.head,h⟩
  ·rcases v7 h with ⟨l',u,q⟩ | h
   ·exact .inl ⟨_,.tail u,q⟩
   ·exact .inr h
structure WF where
 e:Loc→HS→Expr→(AV→HS→Prop)→Prop
 t:Loc→HS→Expr→(Bool→HS→Prop)→Prop
 es:Loc→HS→Pos→List Expr→(List AV→HS→Prop)→Prop
 o:Loc→HS→Stmt→(AF→Loc→HS→Prop)→Prop
 s:Loc→HS→List Stmt→(AF→Loc→HS→Prop)→Prop
section
variable (B:Base) (n:Nat) (F:WF) (loc:Loc)
section
variable (Q:AV→HS→Prop)
noncomputable def wAt (x:Str):AV→HS→Prop:=fun a H=>L (fN B n a x H Q)
noncomputable def wSu (v s:Expr) (a:AV):AV→HS→Prop:=fun b H=>L (jS B n v s a b H Q)
noncomputable def Zs (v s:Expr):AV→HS→Prop:=fun a H=>F.e loc H s (wSu B n Q v s a)
noncomputable def FZ (H:HS):Option Expr→Prop
 | none=>Q .none H
 | some e=>F.e loc H e Q
noncomputable def X0 (v s:Expr) (o l u:AV):AV→HS→Prop:=fun t H=>L (yy B n v s o l u t H Q)
noncomputable def Yl (v s:Expr) (st:Option Expr) (o l:AV):AV→HS→Prop:=fun u H=>FZ F loc (X0 B n Q v s o l u) H st
noncomputable def YM (v s:Expr) (up st:Option Expr) (o:AV):AV→HS→Prop:=fun l H=>FZ F loc (Yl B n F loc Q v s st o l) H up
noncomputable def wSl (v s:Expr) (lo up st:Option Expr):AV→HS→Prop:=fun o H=>FZ F loc (YM B n F loc Q v s up st o) H lo
noncomputable def wBi (op:Operator) (a:AV):AV→HS→Prop:=fun b H=>L (gD B n op a b H Q)
noncomputable def Yw (op:Operator) (r:Expr):AV→HS→Prop:=fun a H=>F.e loc H r (wBi B n Q op a)
noncomputable def wUn (op:UnaryOp):AV→HS→Prop:=fun a H=>L (Fi B n op a H Q)
noncomputable def wCm (op:CmpOp) (a:AV):AV→HS→Prop:=fun b H=>L (CMP B n op a b H Q)
noncomputable def X6 (x y:Prop) (r:Expr):Prop:=match r with
 | .List es _=>sel es.isEmpty x y
 | _=>y
noncomputable def Xp (op:CmpOp) (r:Expr):AV→HS→Prop:=fun a H=>X6 (L (CMP B n op a (.lst []) H Q)) (F.e loc H r (wCm B n Q op a)) r
noncomputable def wAn (a:AV) (rest:List Expr) (pos:Pos):Bool→HS→Prop:=fun c H=>L (if c = true then F.e loc H (.BoolOp .And rest pos) Q else Q a H)
noncomputable def Yn (rest:List Expr) (pos:Pos):AV→HS→Prop:=fun a H=>L (gI B n a H (wAn F loc Q a rest pos))
noncomputable def wOr (a:AV) (rest:List Expr) (pos:Pos):Bool→HS→Prop:=fun c H=>L (if c = true then Q a H else F.e loc H (.BoolOp .Or rest pos) Q)
noncomputable def YG (rest:List Expr) (pos:Pos):AV→HS→Prop:=fun a H=>L (gI B n a H (wOr F loc Q a rest pos))
noncomputable def YD (b o:Expr):Bool→HS→Prop:=fun c H=>L (if c = true then F.e loc H b Q else F.e loc H o Q)
noncomputable def X9:List AV→HS→Prop:=fun as H=>sel (Nat.ble as.length 100000) (Q (.tup as) H) (L (as.length≤100000∧Q (.tup as) H))
noncomputable def YA:List AV→HS→Prop:=fun as H=>sel (Nat.ble as.length 100000) (Q (.lst as) H) (L (as.length≤100000∧Q (.lst as) H))
noncomputable def wCV (g:Value):List AV→HS→Prop:=fun as H=>L (ac B n g as H Q)
noncomputable def wMV (g:Value) (fs:List AV):List AV→HS→Prop:=fun as H=>match fs with
 | []=>L (ac B n g as H Q)
 | x :: fs=>match fs with
  | []=>L (ac B n g (x :: as) H Q)
  | y :: fs=>L (ac B n g ((x :: y :: fs)++as) H Q)
variable (T:TB)
noncomputable def kn (pos:Pos) (H:HS) (R:List AV→HS→Prop):List Expr→Prop
 | []=>R [] H
 | e :: es=>F.es loc H pos (e :: es) R
noncomputable def wCa (pos:Pos) (es:List Expr):AV→HS→Prop:=fun f H=>L (∃ g,f = .val g∧bK B g∧kn F loc pos H (wCV B n Q g) es)
noncomputable def wMa (pos:Pos) (es:List Expr):Value→List AV→HS→Prop:=fun f fs H=>sel (Cv f T.k) (kn F loc pos H (wMV B n Q f fs) es) (L (bK B f∧kn F loc pos H (wMV B n Q f fs) es))
noncomputable def wMe (x:Str) (pos:Pos) (es:List Expr):AV→HS→Prop:=fun o H=>L (cO B n o x H (wMa B n F loc Q T pos es))
end
section
variable (Q:Bool→HS→Prop)
noncomputable def wTr:AV→HS→Prop:=fun a H=>match a with
 | .bool c=>Q c H
 | a=>L (gI B n a H Q)
noncomputable def Zu:Bool→HS→Prop:=fun c H=>Q (!c) H
noncomputable def V8 (rest:List Expr) (pos:Pos):Bool→HS→Prop:=fun c H=>L (if c = true then F.t loc H (.BoolOp .And rest pos) Q else Q false H)
noncomputable def Yv (rest:List Expr) (pos:Pos):Bool→HS→Prop:=fun c H=>L (if c = true then Q true H else F.t loc H (.BoolOp .Or rest pos) Q)
end
section
variable (Q:List AV→HS→Prop)
noncomputable def wEs (a:AV):List AV→HS→Prop:=fun as H=>Q (a :: as) H
noncomputable def VG (pos:Pos) (rest:List Expr):AV→HS→Prop:=fun a H=>F.es loc H pos rest (wEs Q a)
end
section
variable (Q:AF→Loc→HS→Prop)
noncomputable def u8 (rest:List Stmt):AF→Loc→HS→Prop
 | .next,l,H=>F.s l H rest Q
 | f,l,H=>Q f l H
noncomputable def Y5:AV→HS→Prop:=fun zz H=>Q .next loc H
noncomputable def YU:AV→HS→Prop:=fun a H=>Q (.ret a) loc H
noncomputable def Zn (x:Str):AV→HS→Prop:=fun a H=>upC x a loc (fun l'=>Q .next l' H) (L (∃ l',Up x a loc l'∧Q .next l' H))
noncomputable def wU:Unit→HS→Prop:=fun zz H=>Q .next loc H
noncomputable def wSA (v:AV) (x:Str):AV→HS→Prop:=fun o H=>L (jf B n o v x H (wU loc Q))
noncomputable def YS (o:Expr) (x:Str):AV→HS→Prop:=fun v H=>F.e loc H o (wSA B n loc Q v x)
noncomputable def wSI (v o:AV):AV→HS→Prop:=fun i H=>L (mo B n o i v H (wU loc Q))
noncomputable def Zx (ix:Expr) (v:AV):AV→HS→Prop:=fun o H=>F.e loc H ix (wSI B n loc Q v o)
noncomputable def Y4 (o ix:Expr):AV→HS→Prop:=fun v H=>F.e loc H o (Zx B n F loc Q ix v)
noncomputable def wIf (b o:List Stmt):Bool→HS→Prop:=fun c H=>L (if c = true then F.s loc H b Q else F.s loc H o Q)
end
end
noncomputable def O9:Expr→Bool
 | .Name ..=>true
 | _=>false
noncomputable def nb:Expr→Bool
 | .Call f es ks _=>sel (O9 f) (sel es.isEmpty (!ks.isEmpty) true) true
 | _=>true
theorem KX {v:Expr} {attr:Str} {env:Env} {whole:Sem Value} (h:nb v = true):attributeBase v attr env whole = whole:=by
 cases v with
 | Call f es ks pos =>
  cases f with
  | Name x p =>
   cases es with
   | nil=>cases ks with
    | nil=>cases h
    | cons=>rfl
   | cons=>rfl
  | _=>rfl
 | _=>rfl
noncomputable def iq:Expr→Bool
 | .ListComp ..=>false
 | .SetComp ..=>false
 | .DictComp ..=>false
 | _=>true
theorem cW {v:Expr} {t:Option Expr} {l:Nat} {env:Env} (h:iq v = true):swapsWith v t l env = pure false:=by
 cases v with
 | ListComp=>cases h
 | SetComp=>cases h
 | DictComp=>cases h
 | _=>rfl
noncomputable def iw:Expr→Bool
 | .Starred ..=>false
 | _=>true
noncomputable def cx:List Expr→Bool
 | []=>true
 | e :: l=>sel (iw e) (cx l) false
theorem fO {e:Expr} {rest:List Expr} {env:Env} (h:iw e = true):starEach (e :: rest) env = (false,eval e env) :: starEach rest env:=by
 cases e with
 | Starred=>cases h
 | _=>rfl
theorem jm {e:Expr} {l:List Expr} (h:cx (e :: l) = true):iw e = true∧cx l = true:=by
 rcases jX h with q | ⟨_,q⟩
 ·exact q
 ·cases q
theorem iD {env:Env}:∀ {l:List Expr},cx l = true→starEach l env = l.map fun e=>(false,eval e env)
 | [],_=>rfl
 | e :: l,h=>by rw [fO (jm h).1,iD (jm h).2]; rfl
noncomputable def Tg:List Expr→Bool
 | []=>false
 | e :: es=>match e with
  | .Call f _ _ _=>match f with
   | .Name x _=>x == "reversed"
   | _=>false
  | _=>false
end
section
set_option bootstrap.genMatcherCode false
noncomputable def EVX (B:Base) (n:Nat) (sc:List (Str × NameKind)) (loc:Loc) (H:HS) (e:Expr) (Q:AV→HS→Prop):Prop:=EV B n sc loc H e Q
section
variable (B:Base) (n:Nat) (sc:List (Str × NameKind)) (T:TB)
noncomputable def FD (x:Str):Option GT:=sel (ig .globalImplicit x sc) (lkT x T.g) none
noncomputable def S1 (loc:Loc) (H:HS) (x:Str) (pos:Pos) (Q:AV→HS→Prop):Prop:=oB (lk x loc) (fun a=>Q a H) (oB (FD sc T x) (fun p=>Q p.a H) (L (EVX B n sc loc H (.Name x pos) Q)))
noncomputable def Sx (p:GT):Option Value:=match p.a with
 | .val g=>sel p.keep (some g) none
 | _=>none
noncomputable def callee? (loc:Loc):Expr→Option Value
 | .Name x _=>oB (lk x loc) (fun zz=>none) (oB (FD sc T x) Sx none)
 | _=>none
noncomputable def tH:Expr→Bool
 | .Attribute ..=>true
 | _=>false
noncomputable def Yb (F:WF) (loc:Loc) (H:HS) (v s:Expr) (Q:AV→HS→Prop):Prop:=match s with
 | .Slice lo up st sp=>F.e loc H v (wSl B n F loc Q v (.Slice lo up st sp) lo up st)
 | s=>F.e loc H v (Zs B n F loc Q v s)
noncomputable def DT (F:WF) (loc:Loc) (H:HS) (l:Expr) (ops:List CmpOp) (rs:List Expr) (Q:AV→HS→Prop) (z:Prop):Prop:=match ops with
 | []=>z
 | op :: ops=>match rs with
  | []=>z
  | r :: rs=>sel (ops.isEmpty && rs.isEmpty && !behindInMarks op r) (F.e loc H l (Xp B n F loc Q op r)) z
noncomputable def QN (H:HS) (c:Const) (Q:AV→HS→Prop) (z:Prop):Prop:=match c with
 | .int i=>Q (.int i) H
 | .none=>Q .none H
 | .bool b=>Q (.bool b) H
 | _=>z
noncomputable def SW (F:WF) (loc:Loc) (H:HS) (op:BoolOp) (vs:List Expr) (pos:Pos) (Q:AV→HS→Prop) (z:Prop):Prop:=match vs with
 | []=>z
 | e :: vs=>match vs with
  | []=>F.e loc H e Q
  | e₂ :: vs=>match op with
   | .And=>F.e loc H e (Yn B n F loc Q (e₂ :: vs) pos)
   | .Or=>F.e loc H e (YG B n F loc Q (e₂ :: vs) pos)
noncomputable def okM (o:Expr) (es:List Expr) (apos pos:Pos):Bool:=nb o && cx es && Nat.blt es.length 20 && Nat.beq apos.endLine pos.line && !Tg es
noncomputable def XF (F:WF) (loc:Loc) (H:HS) (f:Expr) (es:List Expr) (pos:Pos) (Q:AV→HS→Prop):Prop:=match f with
 | .Attribute o x apos=>sel (okM o es apos pos) (F.e loc H o (wMe B n F loc Q T x pos es)) (L (EVX B n sc loc H (.Call (.Attribute o x apos) es [] pos) Q))
 | f=>sel (cx es) (oB (callee? sc T loc f) (fun g=>kn F loc pos H (wCV B n Q g) es) (F.e loc H f (wCa B n F loc Q pos es))) (L (EVX B n sc loc H (.Call f es [] pos) Q))
noncomputable def JU (F:WF) (loc:Loc) (H:HS) (e:Expr) (Q:AV→HS→Prop):Prop:=match e with
 | .Name x pos=>S1 B n sc T loc H x pos Q
 | .Constant c k pos=>QN H c Q (L (EVX B n sc loc H (.Constant c k pos) Q))
 | .Attribute v x pos=>sel (nb v) (F.e loc H v (wAt B n Q x)) (L (EVX B n sc loc H (.Attribute v x pos) Q))
 | .Subscript v s _=>Yb B n F loc H v s Q
 | .BinOp l op r _=>F.e loc H l (Yw B n F loc Q op r)
 | .UnaryOp op x _=>F.e loc H x (wUn B n Q op)
 | .Compare l ops rs pos=>DT B n F loc H l ops rs Q (L (EVX B n sc loc H (.Compare l ops rs pos) Q))
 | .BoolOp op vs pos=>SW B n F loc H op vs pos Q (L (EVX B n sc loc H (.BoolOp op vs pos) Q))
 | .Tuple es _ pos=>F.es loc H pos es (X9 Q)
 | .Call f es ks pos=>match ks with
  | []=>XF B n sc T F loc H f es pos Q
  | k :: ks=>L (EVX B n sc loc H (.Call f es (k :: ks) pos) Q)
 | e=>L (EVX B n sc loc H e Q)
noncomputable def N0 (F:WF) (loc:Loc) (H:HS) (op:BoolOp) (vs:List Expr) (pos:Pos) (Q:Bool→HS→Prop):Prop:=match op with
 | .And=>match vs with
  | []=>Q true H
  | x :: vs=>F.t loc H x (V8 F loc Q vs pos)
 | .Or=>match vs with
  | []=>Q false H
  | x :: vs=>F.t loc H x (Yv F loc Q vs pos)
noncomputable def Xg:UnaryOp→Bool
 | .Not=>true
 | _=>false
noncomputable def stepT (F:WF) (loc:Loc) (H:HS) (e:Expr) (Q:Bool→HS→Prop):Prop:=match e with
 | .UnaryOp op x pos=>sel (Xg op) (F.t loc H x (Zu Q)) (L (TV B n sc loc H (.UnaryOp op x pos) Q))
 | .BoolOp op vs pos=>N0 F loc H op vs pos Q
 | .Compare l ops rs pos=>DT B n F loc H l ops rs (wTr B n Q) (L (TV B n sc loc H (.Compare l ops rs pos) Q))
 | .IfExp t b o pos=>L (TV B n sc loc H (.IfExp t b o pos) Q)
 | e=>F.e loc H e (wTr B n Q)
noncomputable def BO (F:WF) (loc:Loc) (H:HS) (pos:Pos) (es:List Expr) (Q:List AV→HS→Prop):Prop:=match es with
 | []=>Q [] H
 | e :: rest=>sel (iw e) (F.e loc H e (VG F loc Q pos rest)) (L (EVs B n sc loc H pos (e :: rest) Q))
noncomputable def Wu (F:WF) (loc:Loc) (H:HS) (t v:Expr) (Q:AF→Loc→HS→Prop) (z:Prop):Prop:=match t with
 | .Name x _=>sel (ig .local x sc) (F.e loc H v (Zn loc Q x)) z
 | .Attribute o x _=>F.e loc H v (YS B n F loc Q o x)
 | .Subscript o ix _=>F.e loc H v (Y4 B n F loc Q o ix)
 | _=>z
noncomputable def WX (F:WF) (loc:Loc) (H:HS) (ts:List Expr) (v:Expr) (Q:AF→Loc→HS→Prop) (z:Prop):Prop:=match ts with
 | []=>z
 | t :: ts=>sel (iq v && ts.isEmpty) (Wu B n sc F loc H t v Q z) z
noncomputable def KS (F:WF) (loc:Loc) (H:HS) (st:Stmt) (Q:AF→Loc→HS→Prop):Prop:=match st with
 | .Expr e pos=>sel (iq e) (F.e loc H e (Y5 loc Q)) (L (XO B n sc loc H (.Expr e pos) Q))
 | .Return o pos=>oB o (fun e=>F.e loc H e (YU loc Q)) (Q (.ret .none) loc H)
 | .Pass _=>Q .next loc H
 | .Break _=>Q .brk loc H
 | .Continue _=>Q .cont loc H
 | .If t b o _=>F.t loc H t (wIf F loc Q b o)
 | .Assign ts v pos=>WX B n sc F loc H ts v Q (L (XO B n sc loc H (.Assign ts v pos) Q))
 | st=>L (XO B n sc loc H st Q)
noncomputable def JM (F:WF) (loc:Loc) (H:HS) (ss:List Stmt) (Q:AF→Loc→HS→Prop):Prop:=match ss with
 | []=>Q .next loc H
 | st :: rest=>F.o loc H st (u8 F Q rest)
noncomputable def Sf (F:WF):WF:=⟨JU B n sc T F,stepT B n sc F,BO B n sc F,KS B n sc F,JM F⟩
noncomputable def VH:WF:=⟨fun loc H e Q=>L (EVX B n sc loc H e Q),fun loc H e Q=>L (TV B n sc loc H e Q),fun loc H pos es Q=>L (EVs B n sc loc H pos es Q),fun loc H st Q=>L (XO B n sc loc H st Q),fun loc H ss Q=>L (XS B n sc loc H ss Q)⟩
noncomputable def Wf:Nat→WF
 | 0=>VH B n sc
 | k + 1=>Sf B n sc T (Wf k)
structure WF.Ok (F:WF):Prop where
 e:∀ {loc H e Q},F.e loc H e Q→EV B n sc loc H e Q
 t:∀ {loc H e Q},F.t loc H e Q→TV B n sc loc H e Q
 es:∀ {loc H pos es Q},F.es loc H pos es Q→EVs B n sc loc H pos es Q
 o:∀ {loc H st Q},F.o loc H st Q→XO B n sc loc H st Q
 s:∀ {loc H ss Q},F.s loc H ss Q→XS B n sc loc H ss Q
theorem N7:(VH B n sc).Ok B n sc:=⟨L.out,L.out,L.out,L.out,L.out⟩
end
section
variable {B:Base} {n:Nat} {sc:List (Str × NameKind)} {T:TB} {F:WF} {loc:Loc} {H:HS}
theorem tG (ok:T.Ok B) {x:Str} {p:GT} (h:FD sc T x = some p):p ∈ T.g∧(x,NameKind.globalImplicit) ∈ sc∧GA B x p.a:=by
 rcases jX h with ⟨e,h⟩ | ⟨_,h⟩
 ·obtain ⟨m,rfl⟩:=tu h
  exact ⟨m,bP e,ok.g p m⟩
 ·cases h
theorem KC {Q:Bool→HS→Prop} {a:AV} (h:wTr B n Q a H):gI B n a H Q:=by
 cases a with
 | bool=>exact MI h
 | _=>exact L.out h
theorem wj (ok:F.Ok B n sc) {Q:AV→HS→Prop}:∀ {oe:Option Expr},FZ F loc Q H oe→FV B (VR B) n sc loc H (fun env=>valueOrNone (evalOpt oe env)) Q
 | none,h=>Fg h
 | some _,h=>Fd (ok.e h)
theorem Ba {P:Prop} {k:Nat} (h:sel (Nat.ble k 100000) P (L (k≤100000∧P))):k≤100000∧P:=by
 rcases cp h with ⟨e,q⟩ | ⟨_,q⟩
 ·exact ⟨Nat.le_of_ble_eq_true e,q⟩
 ·exact q.out
theorem TS (ok:F.Ok B n sc) {pos:Pos} {es:List Expr} {Q:List AV→HS→Prop} (h:BO B n sc F loc H pos es Q):EVs B n sc loc H pos es Q:=by
 cases es with
 | nil=>exact aU h
 | cons e es =>
  rcases cp h with ⟨q,h⟩ | ⟨_,h⟩
  ·exact vv (FV.mono (ok.e h) fun a H1 q=>ok.es q) fun env=>fO q
  ·exact h.out
theorem YE (ok:F.Ok B n sc) {ss:List Stmt} {Q:AF→Loc→HS→Prop} (h:JM F loc H ss Q):XS B n sc loc H ss Q:=by
 cases ss with
 | nil=>exact Nj h
 | cons st ss=>exact Fq (SV.mono (ok.o h) fun f l H1 q=>by
   cases f with
   | next=>exact ok.s q
   | _=>exact q)
theorem NM (ok:F.Ok B n sc) {Q:AV→HS→Prop} {op:CmpOp} {r:Expr} {a:AV} (h:Xp B n F loc Q op r a H):EV B n sc loc H r fun b H2=>CMP B n op a b H2 Q:=by
 cases r with
 | List es pos=>cases es with
  | nil=>exact FS (L.out h)
  | cons=>exact FV.mono (ok.e h) fun b H2 q=>q.out
 | _=>exact FV.mono (ok.e h) fun b H2 q=>q.out
theorem yR (ok:F.Ok B n sc) {Q:AV→HS→Prop} {ops:List CmpOp} {rs:List Expr} {l:Expr} {z:Prop} (h:DT B n F loc H l ops rs Q z) :
  (∃ op r,ops = [op]∧rs = [r]∧behindInMarks op r = false∧EV B n sc loc H l fun a H1=>EV B n sc loc H1 r fun b H2=>CMP B n op a b H2 Q) ∨ z:=by
 cases ops with
 | nil=>exact .inr h
 | cons op ops=>cases rs with
  | nil=>exact .inr h
  | cons r rs =>
   rcases cp h with ⟨q,h2⟩ | ⟨_,h2⟩
   ·simp only [Bool.and_eq_true,List.isEmpty_iff,Bool.not_eq_true'] at q
    obtain ⟨⟨rfl,rfl⟩,q⟩:=q
    exact .inl ⟨op,r,rfl,rfl,q,FV.mono (ok.e h2) fun a H1 q=>NM ok q⟩
   ·exact .inr h2
theorem gW {c:Bool} {P R P' R':Prop} (h:L (if c = true then P else R)) (h1:P→P') (h2:R→R'):if c = true then P' else R':=by
 have:=h.out
 cases c with
 | true=>rw [if_pos rfl] at this ⊢; exact h1 this
 | false=>rw [if_neg Bool.false_ne_true] at this ⊢; exact h2 this
theorem YZ (ok:F.Ok B n sc) {e:Expr} {Q:Bool→HS→Prop} (h:stepT B n sc F loc H e Q):TV B n sc loc H e Q:=by
 cases e with
 | UnaryOp op x pos =>
  rcases cp h with ⟨q,h⟩ | ⟨_,h⟩
  ·cases op with
   | Not=>exact Nc (ok.t h)
   | _=>cases q
  ·exact h.out
 | BoolOp op vs pos =>
  cases op with
  | And=>cases vs with
   | nil=>exact wt h
   | cons=>exact RB (FV.mono (ok.t h) fun c H1 q=>gW q ok.t id)
  | Or=>cases vs with
   | nil=>exact z7 h
   | cons=>exact UD (FV.mono (ok.t h) fun c H1 q=>gW q id ok.t)
 | Compare =>
  rcases yR ok h with ⟨op,r,rfl,rfl,q,h⟩ | h
  ·exact xb (FV.mono h fun a H1 q=>FV.mono q fun b H2 q=>GW.mono q fun c H3 q=>KC q) q
  ·exact h.out
 | IfExp=>exact L.out h
 | _=>exact CO (FV.mono (ok.e h) fun a H1 q=>KC q) fun zz zz=>rfl
theorem N8 {a b:Nat} (h:Nat.blt a b = true):a < b:=Nat.le_of_ble_eq_true h
theorem AT {o:Expr} {x:Str} {es:List Expr} {apos pos:Pos} (h1:nb o = true) (h2:cx es = true) (h3:Nat.blt es.length 20 = true) (h4:Nat.beq apos.endLine pos.line = true) (env:Env):∃ pl,eval (.Call (.Attribute o x apos) es [] pos) env = (do
   let ov ← eval o env
   standAt apos.atName
   let (f,first) ← holding [ov] (getMethod ov x pl)
   callWith pos f first (backTo pos (starEach es env)) []):=by
 refine ⟨do return (← importBound o env).getD true,?_⟩
 rw [arm_eval_Call,KX h1]
 have e:methodCallForm (es.length + ([]:List Keyword).length) (backTo pos (starEach es env)) [] = true:=by
  rw [iD h2]
  have h3:es.length < 30:=Nat.lt_of_lt_of_le (N8 h3) (by decide)
  simp [methodCallForm,backTo,h3]
 have e2:(apos.endLine == pos.line) = true:=beq_iff_eq.mpr (Nat.eq_of_beq_eq_true h4)
 show (do
  let ov ← eval o env
  standAt apos.atName
  methodCall o x apos pos env ov (es.length + ([]:List Keyword).length) (backTo pos (starEach es env)) []) = _
 unfold methodCall methodCallPos
 rw [e,e2]
 rfl
theorem sW {f:Expr} {es:List Expr} {pos:Pos} (h:tH f = false) (env:Env):eval (.Call f es [] pos) env = (do callWith pos (← eval f env) [] (backTo pos (starEach es env)) (backToKw pos (keywordEach [] env))):=by
 cases f with
 | Attribute=>cases h
 | _=>rfl
theorem LY {g:Value} {fs as:List AV} {Q:AV→HS→Prop} (h:wMV B n Q g fs as H):ac B n g (fs++as) H Q:=by
 cases fs with
 | nil=>exact L.out h
 | cons x fs=>cases fs with
  | nil=>exact L.out h
  | cons=>exact L.out h
theorem yj (ok:F.Ok B n sc) {f:Expr} {es:List Expr} {pos:Pos} {Q:AV→HS→Prop} (ha:tH f = false) (hs:cx es = true)
  (h:EV B n sc loc H f fun a H1=>∃ g,a = .val g∧bK B g∧kn F loc pos H1 (wCV B n Q g) es):EV B n sc loc H (.Call f es [] pos) Q:=by
 cases es with
 | nil=>exact D8 (FV.mono h fun a H1 ⟨g,q1,k,q⟩=>⟨g,q1,k,q.out⟩) (sW ha)
 | cons e es=>exact EU (FV.mono h fun a H1 ⟨g,q1,k,q⟩=>⟨g,q1,k,FV.mono (ok.es q) fun as H2 q=>q.out⟩) (sW ha) fun env=>iD hs
theorem y0 (tk:T.Ok B) {f:Value} {fs:List AV} {es:List Expr} {pos:Pos} {Q:AV→HS→Prop} (h:wMa B n F loc Q T pos es f fs H):bK B f∧kn F loc pos H (wMV B n Q f fs) es:=by
 rcases cp h with ⟨q,h⟩ | ⟨_,h⟩
 ·exact ⟨vE tk q,h⟩
 ·exact h.out
theorem EH (tk:T.Ok B) (ok:F.Ok B n sc) {o:Expr} {x:Str} {es:List Expr} {apos pos:Pos} {Q:AV→HS→Prop} (hc:okM o es apos pos = true)
  (h:F.e loc H o (wMe B n F loc Q T x pos es)):EV B n sc loc H (.Call (.Attribute o x apos) es [] pos) Q:=by
 simp only [okM,Bool.and_eq_true] at hc
 obtain ⟨⟨⟨⟨h1,h2⟩,h3⟩,h4⟩,_⟩:=hc
 have he:=fun env=>AT (x:=x) h1 h2 h3 h4 env
 cases es with
 | nil=>exact Xr (FV.mono (ok.e h) fun a H1 q pl=>GW.mono (q.out pl) fun fx H2 q=>⟨(y0 tk q).1,List.append_nil fx.2 ▸ LY (y0 tk q).2⟩) he
 | cons e es=>exact Zh (FV.mono (ok.e h) fun a H1 q pl=>GW.mono (q.out pl) fun fx H2 q=>⟨(y0 tk q).1,FV.mono (ok.es (y0 tk q).2) fun as H2 q=>LY q⟩) he fun env=>iD h2
theorem FK {p:GT} {g:Value} (h:Sx p = some g):p.a = .val g∧p.keep = true:=by
 obtain ⟨x,a,k⟩:=p
 cases a with
 | val v=>cases k with
  | true=>cases h; exact ⟨rfl,rfl⟩
  | false=>cases h
 | _=>cases h
theorem kh (tk:T.Ok B) (kp:∀ p ∈ T.g,∀ g,p.a = .val g→p.keep = true→bK B g) {f:Expr} {g:Value} {Q:AV→HS→Prop} (h:callee? sc T loc f = some g) (q:Q (.val g) H):bK B g∧EV B n sc loc H f Q:=by
 cases f with
 | Name x pos =>
  cases e1:lk x loc with
  | some a=>simp only [callee?,e1,oB] at h; cases h
  | none=>cases e2:FD sc T x with
   | none=>simp only [callee?,e1,e2,oB] at h; cases h
   | some p =>
    simp only [callee?,e1,e2,oB] at h
    obtain ⟨ea,ek⟩:=FK h
    obtain ⟨m,hm,ga⟩:=tG tk e2
    exact ⟨kp p m g ea ek,qI hm ga (ea ▸ q)⟩
 | _=>cases h
theorem Bc (tk:T.Ok B) (kp:∀ p ∈ T.g,∀ g,p.a = .val g→p.keep = true→bK B g) (ok:F.Ok B n sc) {f:Expr} {es:List Expr} {pos:Pos} {Q:AV→HS→Prop} (ha:tH f = false)
  (h:sel (cx es) (oB (callee? sc T loc f) (fun g=>kn F loc pos H (wCV B n Q g) es) (F.e loc H f (wCa B n F loc Q pos es))) (L (EVX B n sc loc H (.Call f es [] pos) Q))):EV B n sc loc H (.Call f es [] pos) Q:=by
 rcases cp h with ⟨hs,h⟩ | ⟨_,h⟩
 ·rcases rn h with ⟨g,hg,h⟩ | ⟨_,h⟩
  ·have k:=(kh (n:=n) (H:=H) (Q:=fun zz zz=>True) tk kp hg trivial).1
   exact yj ok ha hs (kh (Q:=fun a H1=>∃ g,a = .val g∧bK B g∧kn F loc pos H1 (wCV B n Q g) es) tk kp hg ⟨g,rfl,k,h⟩).2
  ·exact yj ok ha hs (FV.mono (ok.e h) fun a H1 q=>q.out)
 ·exact h.out
theorem YT (tk:T.Ok B) (kp:∀ p ∈ T.g,∀ g,p.a = .val g→p.keep = true→bK B g) (ok:F.Ok B n sc) {e:Expr} {Q:AV→HS→Prop} (h:JU B n sc T F loc H e Q):EV B n sc loc H e Q:=by
 cases e with
 | Name x pos =>
  rcases rn h with ⟨a,q,h⟩ | ⟨_,h⟩
  ·exact DE (BH q) h
  ·rcases rn h with ⟨p,q,h⟩ | ⟨_,h⟩
   ·exact qI (tG tk q).2.1 (tG tk q).2.2 h
   ·exact h.out
 | Constant c k pos=>cases c with
  | int=>exact Qf h
  | none=>exact Fo h
  | bool=>exact Ga h
  | _=>exact L.out h
 | Attribute v x pos =>
  rcases cp h with ⟨q,h⟩ | ⟨_,h⟩
  ·exact t0 (FV.mono (ok.e h) fun a H1 q=>q.out) fun env whole=>KX q
  ·exact h.out
 | Subscript v s pos=>cases s with
  | Slice=>exact D2 (FV.mono (ok.e h) fun a H1 q=>FV.mono (wj ok q) fun b H2 q=>FV.mono (wj ok q) fun c H3 q=>FV.mono (wj ok q) fun d H4 q=>q.out)
  | _=>exact sI (FV.mono (ok.e h) fun a H1 q=>FV.mono (ok.e q) fun b H2 q=>q.out)
 | BinOp=>exact AZ (FV.mono (ok.e h) fun a H1 q=>FV.mono (ok.e q) fun b H2 q=>q.out)
 | UnaryOp=>exact xj (FV.mono (ok.e h) fun a H1 q=>q.out)
 | Compare =>
  rcases yR ok h with ⟨op,r,rfl,rfl,q,h⟩ | h
  ·exact xu h q
  ·exact h.out
 | BoolOp op vs pos=>cases vs with
  | nil=>exact L.out h
  | cons e vs=>cases vs with
   | nil=>exact wQ (ok.e h)
   | cons=>cases op with
    | And=>exact ME (FV.mono (ok.e h) fun a H1 q=>GW.mono q.out fun c H2 q=>gW q ok.e id)
    | Or=>exact Td (FV.mono (ok.e h) fun a H1 q=>GW.mono q.out fun c H2 q=>gW q id ok.e)
 | Tuple=>exact uh (FV.mono (ok.es h) fun as H1 q=>Ba q)
 | Call f es ks pos=>cases ks with
  | nil=>cases f with
   | Attribute =>
    rcases cp h with ⟨q,h⟩ | ⟨_,h⟩
    ·exact EH tk ok q h
    ·exact h.out
   | _=>exact Bc tk kp ok rfl h
  | cons=>exact L.out h
 | _=>exact L.out h
theorem Mx (ok:F.Ok B n sc) {t v:Expr} {pos:Pos} {Q:AF→Loc→HS→Prop} (c:iq v = true) (h:Wu B n sc F loc H t v Q (L (XO B n sc loc H (.Assign [t] v pos) Q))):XO B n sc loc H (.Assign [t] v pos) Q:=by
 cases t with
 | Name x xp =>
  rcases cp h with ⟨q,h⟩ | ⟨_,h⟩
  ·exact zc (bP q) (FV.mono (ok.e h) fun a H1 q=>(v7 q).elim id L.out) fun env=>cW c
  ·exact h.out
 | Attribute=>exact wK (FV.mono (ok.e h) fun a H1 q=>FV.mono (ok.e q) fun b H2 q=>q.out) fun env=>cW c
 | Subscript=>exact xT (FV.mono (ok.e h) fun a H1 q=>FV.mono (ok.e q) fun b H2 q=>FV.mono (ok.e q) fun c H3 q=>q.out) fun env=>cW c
 | _=>exact L.out h
theorem Zw (ok:F.Ok B n sc) {st:Stmt} {Q:AF→Loc→HS→Prop} (h:KS B n sc F loc H st Q):XO B n sc loc H st Q:=by
 cases st with
 | Expr e pos =>
  rcases cp h with ⟨q,h⟩ | ⟨_,h⟩
  ·exact Fn (ok.e h) fun env=>cW q
  ·exact h.out
 | Return o pos=>cases o with
  | some=>exact zf (ok.e h)
  | none=>exact xL h
 | Pass=>exact Gb h
 | Break=>exact AR h
 | Continue=>exact uN h
 | If=>exact Um (FV.mono (ok.t h) fun c H1 q=>gW q ok.s ok.s)
 | Assign ts v pos=>cases ts with
  | nil=>exact L.out h
  | cons t ts =>
   rcases cp h with ⟨q,h⟩ | ⟨_,h⟩
   ·cases ts with
    | nil=>exact Mx ok (by simpa using q) h
    | cons=>simp at q
   ·exact h.out
 | _=>exact L.out h
theorem zL (tk:T.Ok B) (kp:∀ p ∈ T.g,∀ g,p.a = .val g→p.keep = true→bK B g):∀ k,(Wf B n sc T k).Ok B n sc
 | 0=>N7 B n sc
 | k + 1=>⟨YT tk kp (zL tk kp k),YZ (zL tk kp k),TS (zL tk kp k),Zw (zL tk kp k),YE (zL tk kp k)⟩
end
end
section
set_option bootstrap.genMatcherCode false
section
variable {W:WW}
noncomputable def gT:List GT:=[⟨"text_of_codes",(.val (.ref 26)),true⟩,
 ⟨"codes_of_text",(.val (.ref 31)),true⟩,
 ⟨"string_codes",(.val (.ref 36)),true⟩,
 ⟨"need",(.val (.ref 158)),true⟩,
 ⟨"string_argument",(.val (.ref 165)),true⟩,
 ⟨"char_argument",(.val (.ref 172)),true⟩,
 ⟨"Special",(.val (.ref 189)),false⟩,
 ⟨"EMPTY",(.val (.ref 195)),false⟩,
 ⟨"UNSPECIFIED",(.val (.ref 198)),false⟩,
 ⟨"EOF",(.val (.ref 201)),false⟩,
 ⟨"Symbol",(.val (.ref 219)),true⟩,
 ⟨"SymbolTable",(.val (.ref 282)),true⟩,
 ⟨"Pair",(.val (.ref 303)),true⟩,
 ⟨"Char",(.val (.ref 324)),true⟩,
 ⟨"Text",(.val (.ref 345)),true⟩,
 ⟨"Vector",(.val (.ref 366)),true⟩,
 ⟨"Box",(.val (.ref 387)),false⟩,
 ⟨"Promise",(.val (.ref 408)),false⟩,
 ⟨"PortRef",(.val (.ref 429)),true⟩,
 ⟨"Procedure",(.val (.ref 450)),false⟩,
 ⟨"make_text",(.val (.ref 459)),true⟩,
 ⟨"python_text",(.val (.ref 464)),true⟩,
 ⟨"list_of",(.val (.ref 472)),true⟩,
 ⟨"is_boolean",(.val (.ref 479)),true⟩,
 ⟨"Real",(.val (.ref 496)),false⟩,
 ⟨"is_real",(.val (.ref 507)),true⟩,
 ⟨"Ratio",(.val (.ref 615)),false⟩,
 ⟨"gcd_of",(.val (.ref 626)),true⟩,
 ⟨"made",(.val (.ref 633)),true⟩,
 ⟨"ratio_of",(.val (.ref 640)),true⟩,
 ⟨"RADICES",(.val (.ref 641)),false⟩,
 ⟨"few_figures",(.val (.ref 648)),true⟩,
 ⟨"figures_of",(.val (.ref 655)),true⟩,
 ⟨"whole_text",(.val (.ref 662)),true⟩,
 ⟨"exact_text",(.val (.ref 669)),true⟩,
 ⟨"number_text",(.val (.ref 775)),true⟩,
 ⟨"worth_of",(.val (.ref 782)),true⟩,
 ⟨"are_figures",(.val (.ref 787)),true⟩,
 ⟨"parted",(.val (.ref 794)),true⟩,
 ⟨"Reading",(.val (.ref 811)),true⟩,
 ⟨"read_whole",(.val (.ref 822)),true⟩,
 ⟨"mark_place",(.val (.ref 848)),true⟩,
 ⟨"read_unsigned",(.val (.ref 869)),true⟩,
 ⟨"split_prefixes",(.val (.ref 876)),true⟩,
 ⟨"finished",(.val (.ref 883)),true⟩,
 ⟨"parse_number",(.val (.ref 891)),true⟩,
 ⟨"Token",(.val (.ref 917)),true⟩,
 ⟨"folded",(.val (.ref 928)),true⟩,
 ⟨"is_first",(.val (.ref 935)),true⟩,
 ⟨"is_later",(.val (.ref 942)),true⟩,
 ⟨"is_identifier",(.val (.ref 949)),true⟩,
 ⟨"is_numberlike",(.val (.ref 956)),true⟩,
 ⟨"sign_named",(.val (.ref 963)),true⟩,
 ⟨"name_of_sign",(.val (.ref 970)),true⟩,
 ⟨"Lexer",(.val (.ref 1058)),true⟩,
 ⟨"Frame",(.val (.ref 1079)),true⟩,
 ⟨"Reader",(.val (.ref 1164)),true⟩,
 ⟨"written_sign",(.val (.ref 1182)),true⟩,
 ⟨"written_string",(.val (.ref 1189)),true⟩,
 ⟨"other_text",(.val (.ref 1196)),true⟩,
 ⟨"Printer",(.val (.ref 1255)),true⟩,
 ⟨"write_text",(.val (.ref 1267)),true⟩,
 ⟨"InPort",(.val (.ref 1298)),true⟩,
 ⟨"OutPort",(.val (.ref 1326)),true⟩,
 ⟨"PortTable",(.val (.ref 1410)),true⟩,
 ⟨"port_of",(.val (.ref 1421)),true⟩,
 ⟨"port_argument",(.val (.ref 1428)),true⟩,
 ⟨"open_argument",(.val (.ref 1435)),true⟩,
 ⟨"input_for",(.val (.ref 1442)),true⟩,
 ⟨"output_for",(.val (.ref 1449)),true⟩,
 ⟨"prim_open_input_string",(.val (.ref 1456)),true⟩,
 ⟨"prim_open_output_string",(.val (.ref 1463)),true⟩,
 ⟨"prim_get_output_string",(.val (.ref 1470)),true⟩,
 ⟨"prim_read",(.val (.ref 1477)),true⟩,
 ⟨"char_or_end",(.val (.ref 1484)),true⟩,
 ⟨"prim_read_char",(.val (.ref 1491)),true⟩,
 ⟨"prim_peek_char",(.val (.ref 1498)),true⟩,
 ⟨"prim_write",(.val (.ref 1505)),true⟩,
 ⟨"prim_newline",(.val (.ref 1512)),true⟩,
 ⟨"prim_write_char",(.val (.ref 1519)),true⟩,
 ⟨"ObjectStore",(.val (.ref 1886)),true⟩,
 ⟨"Names",(.val (.ref 1970)),true⟩,
 ⟨"Setting",(.val (.ref 1999)),true⟩,
 ⟨"_law_deck",(.val (.ref 2006)),true⟩,
 ⟨"_law_draw",(.val (.ref 2013)),true⟩,
 ⟨"_law_leaf",(.val (.ref 2018)),true⟩,
 ⟨"_law_tree",(.val (.ref 2023)),true⟩,
 ⟨"_law_made",(.val (.ref 2028)),true⟩,
 ⟨"_law_is_like",(.val (.ref 2033)),true⟩,
 ⟨"_law_put",(.val (.ref 2040)),true⟩,
 ⟨"_law_is_next",(.val (.ref 2045)),true⟩,
 ⟨"law",(.val (.ref 2052)),true⟩,
 ⟨"REACH",(.int 65536),false⟩,
 ⟨"FIGURES_numtext",(.str eM.cps.toList),false⟩,
 ⟨"MARKS",(.str xO.cps.toList),false⟩,
 ⟨"MOST_EXPONENT_FIGURES",(.int 5),false⟩,
 ⟨"MOST_BEFORE_POINT",(.int 21),false⟩,
 ⟨"MOST_NOUGHTS_BEHIND_POINT",(.int 6),false⟩,
 ⟨"FIGURES_AT_ONCE",(.int 64),false⟩,
 ⟨"BLANKS",(.str rh.cps.toList),false⟩,
 ⟨"DELIMITERS",(.str wv.cps.toList),false⟩,
 ⟨"RESERVED",(.str xl.cps.toList),false⟩,
 ⟨"SMALL",(.str pD.cps.toList),false⟩,
 ⟨"CAPITALS",(.str w7.cps.toList),false⟩,
 ⟨"FIGURES_lexer",(.str nc.cps.toList),false⟩,
 ⟨"FIRST_SIGNS",(.str rD.cps.toList),false⟩,
 ⟨"LATER_SIGNS",(.str xk.cps.toList),false⟩,
 ⟨"PECULIAR",(.tup [.str Qr.cps.toList,.str O2.cps.toList,.str Nr.cps.toList]),false⟩,
 ⟨"PREFIXES",(.str Cw.cps.toList),false⟩,
 ⟨"SIGN_NAMES",(.tup [.tup [.str Dr.cps.toList,.str Au.cps.toList],.tup [.str BU.cps.toList,.str Eg.cps.toList]]),false⟩,
 ⟨"QUOTATIONS",(.tup [.tup [.str Rm.cps.toList,.str Oe.cps.toList],.tup [.str MD.cps.toList,.str Ot.cps.toList],.tup [.str PN.cps.toList,.str PO.cps.toList],.tup [.str M6.cps.toList,.str RJ.cps.toList]]),false⟩,
 ⟨"NOT_DOTTED",(.int 0),false⟩,
 ⟨"BEHIND_DOT",(.int 1),false⟩,
 ⟨"HAS_TAIL",(.int 2),false⟩,
 ⟨"PIECE",(.int 0),false⟩,
 ⟨"DATUM",(.int 1),false⟩,
 ⟨"TAIL",(.int 2),false⟩,
 ⟨"OUTPUT",(.int 0),false⟩,
 ⟨"INPUT",(.int 1),false⟩,
 ⟨"LINE_END",(.int 10),false⟩,
 ⟨"RADIX",(.int 10),false⟩,
 ⟨"len",(.val (.builtin "len")),true⟩,
 ⟨"isinstance",(.val (.builtin "isinstance")),true⟩,
 ⟨"abs",(.val (.builtin "abs")),true⟩,
 ⟨"chr",(.val (.builtin "chr")),true⟩,
 ⟨"ord",(.val (.builtin "ord")),true⟩,
 ⟨"all",(.val (.builtin "all")),true⟩,
 ⟨"divmod",(.val (.builtin "divmod")),true⟩,
 ⟨"range",(.val (.type "range")),true⟩,
 ⟨"list",(.val (.type "list")),true⟩,
 ⟨"zip",(.val (.type "zip")),true⟩,
 ⟨"enumerate",(.val (.type "enumerate")),true⟩,
 ⟨"reversed",(.val (.type "reversed")),true⟩,
 ⟨"int",(.val (.type "int")),true⟩,
 ⟨"bool",(.val (.type "bool")),true⟩]
theorem gcs {B:Base} {x:Str} {a:AV} {k:Bool} {l:List GT} (h:GA B x a) (t:∀ p ∈ l,GA B p.x p.a):∀ p ∈ (⟨x,a,k⟩ :: l:List GT),GA B p.x p.a:=fun p hp=>by
 rcases List.mem_cons.mp hp with rfl | hp
 ·exact h
 ·exact t p hp
theorem gnl {B:Base}:∀ p ∈ ([]:List GT),GA B p.x p.a:=fun p hp=>by cases hp
noncomputable def avV:AV→Option Value
 | .val v=>some v
 | _=>none
theorem gk1:(gT.take 92).map (fun p=>nsIn (BB W).K mainGlobals p.x) = (gT.take 92).map (fun p=>some (avV p.a)):=by kernel_rfl
theorem gk2:(gT.take 92).all (fun p=>!(p.x == ("__debug__":Str)) && (avV p.a).isSome) = true:=by decide +kernel
theorem gk {p:GT} (hp:p ∈ gT.take 92):GA (BB W) p.x p.a:=by
 have h1:=bp (gk1 (W:=W)) hp
 have h2:=List.all_eq_true.mp gk2 p hp
 obtain ⟨x,a,k⟩:=p
 simp only [Bool.and_eq_true,Bool.not_eq_true'] at h2
 cases a with
 | val v=>exact gv h2.1 h1
 | _=>cases h2.2
noncomputable def tb:TB:=⟨gT,iA⟩
theorem gk3:∀ p ∈ gT.drop 92,GA (BB W) p.x p.a:=gcs Ay <| gcs ib <| gcs CC <| gcs dw <| gcs fB <| gcs cm <| gcs hH <| gcs zh <| gcs po <| gcs vB <| gcs Ef <| gcs vq <| gcs jV <| gcs oA <| gcs mH <| gcs ux <| gcs u7 <| gcs oR <| gcs qm <| gcs pd <| gcs pF <| gcs u6 <| gcs A9 <| gcs AA <| gcs FT <| gcs zl <| gcs BS <| gcs vJ <| gcs A7 <| gcs Rv <| gcs pR <| gcs Qy <| gcs Ny <| gcs Q0 <| gcs QH <| gcs z2 <| gcs DR <| gcs Gi <| gcs QS <| gcs rB <| gcs vD <| gcs Pg <| gcs E0 <| gnl
theorem Ew:TB.Ok (BB W) tb:=⟨fun p hp=>by
 have hp:p ∈ gT:=hp
 rw [← List.take_append_drop 92 gT] at hp
 exact (List.mem_append.mp hp).elim gk (gk3 p),fun a h=>Ut (List.contains_iff_mem.mpr h)⟩
theorem GO:∀ p ∈ tb.g,∀ g,p.a = .val g→p.keep = true→bK (BB W) g:=by
 have c:gT.all (fun p=>match p.a,p.keep with | .val g,true=>Cv g iA | _,_=>true) = true:=by decide +kernel
 intro p hp g e k
 have:=List.all_eq_true.mp c p hp
 rw [e,k] at this
 exact vE Ew this
noncomputable def wFn (Q:AV→HS→Prop):AF→Loc→HS→Prop
 | .ret a,_,H=>L (Q a H)
 | .next,_,H=>L (Q .none H)
 | _,_,_=>False
noncomputable def loO:List Str→(Loc→Prop)→Prop
 | [],k=>k []
 | o :: os,k=>loO os fun l=>k ((o,none) :: l)
theorem As:∀ {os:List Str} {k:Loc→Prop},loO os k→k (kt [] [] os)
 | [],_,h=>h
 | o :: os,k,h=>As (k:=fun l=>k ((o,none) :: l)) h
noncomputable def loC:List Str→List AV→List Str→(Loc→Prop)→Prop
 | [],as,os,k=>match as with
  | []=>loO os k
  | _ :: _=>False
 | x :: ns,as,os,k=>match as with
  | []=>False
  | a :: as=>loC ns as os fun l=>k ((x,some a) :: l)
theorem sR:∀ {ns:List Str} {as:List AV} {os:List Str} {k:Loc→Prop},loC ns as os k→ns.length = as.length∧k (kt ns as os)
 | [],[],_,_,h=>⟨rfl,As h⟩
 | [],_ :: _,_,_,h=>False.elim h
 | _ :: _,[],_,_,h=>False.elim h
 | x :: ns,a :: as,os,k,h=>by
  obtain ⟨e,q⟩:=sR (ns:=ns) (as:=as) (k:=fun l=>k ((x,some a) :: l)) h
  exact ⟨by rw [List.length_cons,List.length_cons,e],q⟩
noncomputable def WV (W:WW) (n:Nat) (sc:List (Str × NameKind)):WF:=Wf (BB W) n sc tb 40
variable {n:Nat} {sc:List (Str × NameKind)} {loc loc':Loc} {H:HS}
theorem bF:(WV W n sc).Ok (BB W) n sc:=zL Ew GO 40
noncomputable def lL {α β:Type} (Q:α→β→Prop):α→β→Prop:=fun a H=>L (Q a H)
noncomputable def lL3 (Q:AF→Loc→HS→Prop):AF→Loc→HS→Prop:=fun f l H=>L (Q f l H)
theorem ZZ {e:Expr} {Q:AV→HS→Prop} (h:(WV W n sc).e loc H e (lL Q)):EV (BB W) n sc loc H e Q:=FV.mono (bF.e h) fun zz zz q=>L.out q
theorem ZT {e:Expr} {Q:Bool→HS→Prop} (h:(WV W n sc).t loc H e (lL Q)):TV (BB W) n sc loc H e Q:=FV.mono (bF.t h) fun zz zz q=>L.out q
theorem ZF {pos:Pos} {es:List Expr} {Q:List AV→HS→Prop} (h:(WV W n sc).es loc H pos es (lL Q)):EVs (BB W) n sc loc H pos es Q:=FV.mono (bF.es h) fun zz zz q=>L.out q
theorem ZR {ss:List Stmt} {Q:AF→Loc→HS→Prop} (h:(WV W n sc).s loc H ss (lL3 Q)):XS (BB W) n sc loc H ss Q:=SV.mono (bF.s h) fun zz zz zz q=>L.out q
section
variable {f:Addr} {body:List Stmt} {names others:List Str} {args:List AV} {Q:AV→HS→Prop}
theorem am (fe:FnEnt (BB W) f body names sc others) (hn:1≤n) (h:loC names args others fun l=>(WV W (n - 1) sc).s l H body (wFn Q)):aJ (BB W) n (.ref f) args H Q :=
 Fv fe (sR h).1 hn (SV.mono (bF.s (sR h).2) fun f l H1 q=>by
  cases f with
  | ret a=>exact yZ q.out
  | next=>exact uj q.out
  | _=>exact q.elim)
theorem ab (fe:FnEnt (BB W) f body names sc others) (hn:1≤n) (h:loC names args others fun l=>(WV W (n - 1) sc).s l H body (wFn Q)):ac (BB W) n (.ref f) args H Q:=(am fe hn h).call
end
section
variable {Q:AF→Loc→HS→Prop}
variable (W n sc) in
noncomputable def wWh (P:Nat→Loc→HS→Prop) (k:Nat) (Q:AF→Loc→HS→Prop):AF→Loc→HS→Prop
 | .brk,l,H=>Q .next l H
 | .ret a,l,H=>Q (.ret a) l H
 | _,l,H=>L (∃ m,m < k∧P m l H)
noncomputable def wLo (P:Nat→Loc→HS→Prop) (i:Nat) (Q:AF→Loc→HS→Prop):AF→Loc→HS→Prop
 | .brk,l,H=>Q .next l H
 | .ret a,l,H=>Q (.ret a) l H
 | _,l,H=>L (P i l H)
noncomputable def wWT (W:WW) (n:Nat) (sc:List (Str × NameKind)) (loc:Loc) (body:List Stmt) (P:Nat→Loc→HS→Prop) (k:Nat) (Q:AF→Loc→HS→Prop):Bool→HS→Prop :=
 fun c H=>L (if c = true then (WV W n sc).s loc H body (wWh P k Q) else Q .next loc H)
theorem bI {test:Expr} {body:List Stmt} {pos:Pos} (P:Nat→Loc→HS→Prop) (k:Nat) (h0:P k loc H) (step:∀ k loc H,P k loc H→(WV W n sc).t loc H test (wWT W n sc loc body P k Q)):XO (BB W) n sc loc H (.While test body [] pos) Q :=
 mQ P k h0 fun k loc H p=>FV.mono (bF.t (step k loc H p)) fun c H1 q=>gW q (fun q=>SV.mono (bF.s q) fun f l H2 q=>by
  cases f with
  | next=>exact q.out
  | cont=>exact q.out
  | brk=>exact q
  | ret a=>exact q) id
theorem ITV.mono {B:Base} {tg iter:Expr} {Q Q':(Nat→HS→Option (Option AV))→HS→Prop} (h:ITV B n sc loc H tg iter Q) (k:∀ nxt H',Q nxt H'→Q' nxt H'):ITV B n sc loc H tg iter Q' :=
 fun A hp F s env hA R=>wpAny_mono (h A hp F s env hA R) (fun x s1 h1=>wpAny_mono h1 (fun it s2 h2=>by
  obtain ⟨F0,H0,ps,I,J,nxt,g0,R0,P0,S,i0,q⟩:=h2
  exact ⟨F0,H0,ps,I,J,nxt,g0,R0,P0,S,i0,k _ _ q⟩) fun zz zz x=>x) fun zz zz x=>x
theorem cB {target iter:Expr} {body:List Stmt} {pos:Pos}
  (h:ITV (BB W) n sc loc H target iter fun nxt H1=>∃ (P:Nat→Loc→HS→Prop) (N:Nat),P 0 loc H1∧∀ i loc H,P i loc H→match nxt i H with
   | none=>False
   | some none=>Q .next loc H
   | some (some a)=>i < N∧∃ loc',Tgt sc target a loc loc'∧(WV W n sc).s loc' H body (wLo P (i + 1) Q))
  (hs:autoParam (∀ env x,foldedSetIterable iter env x = pure x) bD):XO (BB W) n sc loc H (.For target iter body [] pos) Q:=by
 refine xv (ITV.mono h ?_) hs
 rintro nxt H1 ⟨P,N,p0,st⟩
 refine ⟨P,N,p0,fun i loc H p=>?_⟩
 have:=st i loc H p
 revert this
 cases nxt i H with
 | none=>exact id
 | some o=>cases o with
  | none=>exact id
  | some a=>exact fun ⟨h1,l',t,q⟩=>⟨h1,l',t,SV.mono (bF.s q) fun f l H2 q=>by
   cases f with
   | next=>exact q.out
   | cont=>exact q.out
   | brk=>exact q
   | ret a=>exact q⟩
noncomputable def wFT (R:Loc→HS→Prop) (Q:AF→Loc→HS→Prop):AF→Loc→HS→Prop
 | .brk,l,H=>Q .next l H
 | .ret a,l,H=>Q (.ret a) l H
 | _,l,H=>R l H
noncomputable def Fj (W:WW) (n:Nat) (sc:List (Str × NameKind)) (target:Expr) (body:List Stmt) (Q:AF→Loc→HS→Prop):List AV→Loc→HS→Prop
 | [],loc,H=>Q .next loc H
 | a :: xs,loc,H=>L (∃ loc',Tgt sc target a loc loc'∧(WV W n sc).s loc' H body (wFT (Fj W n sc target body Q xs) Q))
theorem mn {target:Expr} {body:List Stmt}:∀ {xs:List AV} {loc:Loc} {H:HS},Fj W n sc target body Q xs loc H→Cx (BB W) n sc target body Q xs loc H
 | [],_,_,h=>h
 | a :: xs,_,_,h=>by
  obtain ⟨l',t,q⟩:=h.out
  exact ⟨l',t,SV.mono (bF.s q) fun f l H2 q=>by
   cases f with
   | next=>exact mn q
   | cont=>exact mn q
   | brk=>exact q
   | ret a=>exact q⟩
theorem YH {target:Expr} {a:AV} {P:Loc→Prop} (t:Tgt sc target a loc loc') (h:P loc'):∃ l,Tgt sc target a loc l∧P l:=⟨loc',t,h⟩
noncomputable def Zg (W:WW) (n:Nat) (sc:List (Str × NameKind)) (loc:Loc) (target:Expr) (body:List Stmt) (Q:AF→Loc→HS→Prop):AV→HS→Prop:=fun a H=>match a with
 | .tup xs=>Fj W n sc target body Q xs loc H
 | a=>L (∃ xs,a = .tup xs∧Fj W n sc target body Q xs loc H)
theorem nh {target iter:Expr} {body:List Stmt} {pos:Pos} (h:(WV W n sc).e loc H iter (Zg W n sc loc target body Q)) (hs:autoParam (∀ env x,foldedSetIterable iter env x = pure x) bD):XO (BB W) n sc loc H (.For target iter body [] pos) Q :=
 E9 (FV.mono (bF.e h) fun a H1 q=>by
  cases a with
  | tup xs=>exact ⟨_,rfl,mn q⟩
  | _ =>
   obtain ⟨xs,e,q⟩:=L.out q
   exact ⟨xs,e,mn q⟩) hs
theorem bc {test:Expr} {body:List Stmt} {pos:Pos} (h:(WV W n sc).t loc H test fun c H1=>L (c = false∧Q .next loc H1)):XO (BB W) n sc loc H (.While test body [] pos) Q :=
 mQ (fun k l H'=>k = 0∧l = loc∧H' = H) 0 ⟨rfl,rfl,rfl⟩ fun k l H' p=>by
  obtain ⟨rfl,rfl,rfl⟩:=p
  refine FV.mono (bF.t h) fun c H1 q=>?_
  obtain ⟨e,q2⟩:=q.out
  exact al e q2
noncomputable def CK:List Str→List AV→Loc→(Loc→Prop)→Prop
 | [],as,l,k=>match as with
  | []=>k l
  | _ :: _=>False
 | x :: xs,as,l,k=>match as with
  | []=>False
  | a :: as=>upC x a l (fun l'=>CK xs as l' k) False
theorem rO:∀ {xs:List Str} {as:List AV} {l:Loc} {k:Loc→Prop},CK xs as l k→∃ l',Ups xs as l l'∧k l'
 | [],[],l,_,h=>⟨l,.nil,h⟩
 | [],_ :: _,_,_,h=>False.elim h
 | _ :: _,[],_,_,h=>False.elim h
 | x :: xs,a :: as,l,k,h=>by
  rcases v7 (k:=fun l'=>CK xs as l' k) h with ⟨l',u,q⟩ | q
  ·obtain ⟨l2,us,q⟩:=rO q
   exact ⟨l2,.cons u us,q⟩
  ·exact q.elim
noncomputable def YQ (xs:List Str) (loc:Loc) (Q:AF→Loc→HS→Prop):AV→HS→Prop:=fun a H=>match a with
 | .tup as=>CK xs as loc fun l'=>Q .next l' H
 | a=>L (∃ as loc',a = .tup as∧Ups xs as loc loc'∧Q .next loc' H)
theorem Ph {elts:List Expr} {k:Nat} {tp pos:Pos} {value:Expr} {xs:List Str} (hx:bH elts = some xs) (hl:xs.all (fun x=>ig .local x sc) = true)
  (h:(WV W n sc).e loc H value (YQ xs loc Q)) (hc:iq value = true)
  (hw:∀ env,swappedStores [.Tuple elts k tp] value env = pure none):XO (BB W) n sc loc H (.Assign [.Tuple elts k tp] value pos) Q :=
 ze hx (fun x m=>bP (List.all_eq_true.mp hl x m)) (FV.mono (bF.e h) fun a H1 q=>by
  cases a with
  | tup as =>
   obtain ⟨l',u,q⟩:=rO q
   exact ⟨as,l',rfl,u,q⟩
  | _=>exact L.out q) (fun env=>by
  show swapsWith value (some (.Tuple elts k tp)) pos.line env = pure false
  exact cW hc) hw
noncomputable def wSw (x y:Str) (loc:Loc) (Q:AF→Loc→HS→Prop):List AV→HS→Prop:=fun as H=>CK [y,x] as.reverse loc fun l'=>Q .next l' H
theorem Ta {x y:Str} {xp yp tp vp pos:Pos} {k k':Nat} {v1 v2:Expr} (h:(WV W n sc).es loc H vp [v1,v2] (wSw x y loc Q))
  (c:(ig .local x sc && ig .local y sc && (xp.line == yp.line) && !(x == y) && !([v1,v2].any (fun | .Starred ..=>true | _=>false)) && !([v1,v2].all (foldedForSure 8)) && !([v1,v2].all (constantsAlone 8))) = true) :
  XO (BB W) n sc loc H (.Assign [.Tuple [.Name x xp,.Name y yp] k tp] (.Tuple [v1,v2] k' vp) pos) Q:=by
 simp only [Bool.and_eq_true,Bool.not_eq_true'] at c
 obtain ⟨⟨⟨⟨⟨⟨c1,c2⟩,c3⟩,c4⟩,c5⟩,c7⟩,c8⟩:=c
 refine Gd (bP c1) (bP c2) (uh (FV.mono (bF.es h) fun as H1 q=>?_)) (fun zz=>rfl) c3 c4 c5 c7 c8
 obtain ⟨l',u,q2⟩:=rO q
 have hl:as.length = 2:=by
  generalize hr:as.reverse = bs at u
  have e:as.length = bs.length:=by rw [← hr,List.length_reverse]
  cases u with
  | cons _ u=>cases u with
   | cons _ u=>cases u with
    | nil=>rw [e]; rfl
 match as,hl with
 | [a1,a2],_=>exact ⟨(show (2:Nat)≤100000 by decide),a1,a2,l',rfl,u,q2⟩
noncomputable def wJ2 (Q:AV→HS→Prop) (sep:List Nat):AV→HS→Prop:=fun x H=>L (∃ ys:List (List Nat),LS H x (ys.map .str)∧(ys.map List.length).sum + ys.length * sep.length≤100000∧ys.length≤100000∧Q (.str (dO sep ys.reverse)) H)
noncomputable def wJ1 (W:WW) (n:Nat) (sc:List (Str × NameKind)) (loc:Loc) (e:Expr) (Q:AV→HS→Prop):AV→HS→Prop:=fun a H=>match a with
 | .str sep=>(WV W n sc).e loc H e (wJ2 Q sep)
 | _=>False
theorem Ij {o func e:Expr} {cpos apos pos:Pos} {Q:AV→HS→Prop} (h:(WV W n sc).e loc H o (wJ1 W n sc loc e Q)) (hr:callee? sc tb loc func = some (.type "reversed"))
  (c:(nb o && Nat.beq apos.endLine pos.line && iw e && !tH func) = true):EVX (BB W) n sc loc H (.Call (.Attribute o "join" apos) [.Call func [e] [] cpos] [] pos) Q:=by
 simp only [Bool.and_eq_true,Bool.not_eq_true'] at c
 obtain ⟨⟨⟨c1,c2⟩,c3⟩,c4⟩:=c
 refine xi rfl (FV.mono (bF.e h) fun a H1 q=>?_) (fun env=>AT c1 rfl rfl c2 env) (fun zz=>rfl) (fun zz=>rfl) (fun env=>sW c4 env) (fun env=>fO c3)
 cases a with
 | str sep=>exact ⟨sep,rfl,(kh Ew GO hr ⟨rfl,qQ,vv (FV.mono (bF.e q) fun x H3 q=>aU (by
   obtain ⟨ys,h1,h2,h3,h4⟩:=q.out
   exact ⟨x,ys,rfl,h1,h2,h3,h4⟩)) fun env=>fO c3⟩).2⟩
 | _=>exact q.elim
theorem XK {s:String} {k:Nat} {pos:Pos} {Q:AV→HS→Prop} (h:Q (.str (ae s)) H):EVX (BB W) n sc loc H (.Constant (.str (Str.ofString s)) k pos) Q:=EK h
theorem Qi {t b o:Expr} {pos:Pos} {Q:AV→HS→Prop} (h:(WV W n sc).t loc H t (YD (WV W n sc) loc Q b o)):EVX (BB W) n sc loc H (.IfExp t b o pos) Q:=BI (FV.mono (bF.t h) fun a H1 q=>gW q bF.e bF.e)
theorem Tv {pos:Pos} {Q:AV→HS→Prop} (h:Q (.cell H.length) (H++[.dict []])):EVX (BB W) n sc loc H (.Dict [] [] pos) Q:=AJ h
theorem aA {elts:List Expr} {pos:Pos} {Q:AV→HS→Prop} (h:(WV W n sc).es loc H pos elts (YA Q)):EV (BB W) n sc loc H (.List elts pos) Q:=ve (FV.mono (bF.es h) fun as H1 q=>Ba q)
end
end
end
section
set_option bootstrap.genMatcherCode false
theorem rm {k m n:Nat} (h:m≤n) (d:Nat.ble (k + 1) m = true):k≤n - 1:=Nat.le_sub_of_add_le (Nat.le_trans (Nat.le_of_ble_eq_true d) h)
theorem rm0 {k m n:Nat} (h:m≤n) (d:Nat.ble k m = true):k≤n:=Nat.le_trans (Nat.le_of_ble_eq_true d) h
theorem rm2 {k m n:Nat} (h:m≤n) (d:Nat.ble (k + 2) m = true):k≤n - 1 - 1:=Nat.le_sub_of_add_le (Nat.le_sub_of_add_le (Nat.le_trans (Nat.le_of_ble_eq_true d) h))
theorem up0 {a k m:Nat} (h:a≤m) (d:Nat.ble m k = true):a≤k:=Nat.le_trans h (Nat.le_of_ble_eq_true d)
theorem XI {α:Type} {l:List α} {k:Nat} (d:Nat.ble l.length k = true):l.length≤k:=Nat.le_of_ble_eq_true d
end
section
set_option bootstrap.genMatcherCode false
variable {W:WW}
variable {n:Nat} {H:HS} {Q:AV→HS→Prop}
noncomputable abbrev lv (s:String) (a:AV):Str × Option AV:=(Str.ofString s,some a)
noncomputable abbrev lq (s:String) (a:Option AV):Str × Option AV:=(Str.ofString s,a)
noncomputable def dsL:List Nat:=[189,219,303,324,345,366,429]
noncomputable def csL:List Nat:=[303,366,219,345,324,189,450,408,387,429,496,615]
theorem Rz (P:Params):dsL.all (fun D=>plainGet (KK P) D "__class__") = true:=by kernel_rfl
theorem FM (P:Params):dsL.all (fun D=>hasDictIn (KK P) D) = true:=by kernel_rfl
theorem MN (P:Params):dsL.map (fun D=>findIn (KK P) (.ref D) "__class__") = dsL.map fun zz=>some (some (.builtin "object.__class__")):=by kernel_rfl
theorem Ff (P:Params):specialIn (KK P) (.builtin "object.__class__") "__get__" = some (some (.builtin "getset_descriptor.__get__")):=by kernel_rfl
theorem B2 (P:Params):takesIn (KK P) (.builtin "object.__class__") = some true:=by kernel_rfl
theorem Nq (P:Params):dsL.map (fun D=>mroIn (KK P) D (.type "object")) = dsL.map fun zz=>some true:=by kernel_rfl
theorem QR (P:Params):dsL.all (fun D=>csL.all fun C=>if D = C then isIn (KK P) (.ref D) C else kin_not (KK P) D C) = true:=by kernel_rfl
theorem M7 (P:Params):csL.all (fun C=>isNotIn (KK P) "int" C) = true:=by kernel_rfl
theorem FG (P:Params):csL.all (fun C=>isNotIn (KK P) "bool" C) = true:=by kernel_rfl
theorem SX (P:Params):dsL.all (fun D=>kin_notT (KK P) D "int" && kin_notT (KK P) D "bool") = true:=by kernel_rfl
theorem K3 {D:Nat} (h:D ∈ dsL):ClsIs (BB W).K D:=⟨List.all_eq_true.mp (Rz W.w.params) _ h,List.all_eq_true.mp (FM W.w.params) _ h,bp (MN W.w.params) h,Ff _,B2 _,bp (Nq W.w.params) h⟩
theorem isK {x:AV} {D C:Nat} (hx:ca (BB W) H x D) (hc:(dsL.contains D && csL.contains C) = true) (h:Q (.bool (D == C)) H):ac (BB W) n (.builtin "isinstance") [x,.val (.ref C)] H Q:=by
 simp only [Bool.and_eq_true,List.contains_iff_mem] at hc
 have k:=List.all_eq_true.mp (List.all_eq_true.mp (QR W.w.params) _ hc.1) _ hc.2
 by_cases e:D = C
 ·rw [if_pos e] at k
  rw [show (D == C) = true from beq_iff_eq.mpr e] at h
  exact Tp hx k h
 ·rw [if_neg e] at k
  rw [show (D == C) = false from beq_eq_false_iff_ne.mpr e] at h
  exact Uy hx (K3 hc.1) k h
theorem Yc {x:AV} {D:Nat} (hx:ca (BB W) H x D) (hc:dsL.contains D = true) (h:Q (.bool false) H):ac (BB W) n (.builtin "isinstance") [x,.val (.type "bool")] H Q:=by
 simp only [List.contains_iff_mem] at hc
 have k:=List.all_eq_true.mp (SX W.w.params) _ hc
 simp only [Bool.and_eq_true] at k
 exact PZ hx (K3 hc) k.2 rJ h
theorem isI {i:Int} {C:Nat} (hc:csL.contains C = true) (h:Q (.bool false) H):ac (BB W) n (.builtin "isinstance") [.int i,.val (.ref C)] H Q:=F9 (List.all_eq_true.mp (M7 W.w.params) _ (List.contains_iff_mem.mp hc)) h
theorem isB {b:Bool} {C:Nat} (hc:csL.contains C = true) (h:Q (.bool false) H):ac (BB W) n (.builtin "isinstance") [.bool b,.val (.ref C)] H Q:=Bf (List.all_eq_true.mp (FG W.w.params) _ (List.contains_iff_mem.mp hc)) h
theorem vk:ca (BB W) H (.val (.ref 195)) 189:=.inr (.inr ⟨195,194,_,Qv W.w.params,rfl,(by kernel_rfl:_ = some FL),by kernel_rfl,by kernel_rfl,by kernel_rfl,by kernel_rfl⟩)
theorem ZV:IsPt .none ((none:Option Nat).map Int.ofNat):=.none
theorem ZW {i:Int} (h:0≤i):IsPt (.int i) ((some i.toNat).map Int.ofNat):=by
 show IsPt _ (some (Int.ofNat i.toNat))
 rw [Int.ofNat_eq_natCast,Int.toNat_of_nonneg h]
 exact .int i
theorem mj {elt:Expr} {gens:List Comprehension} {scope:Scope} {pos tp:Pos} {t:Str} {line:Nat} (h:(tp.line == pos.line && !(scope.names.any fun (n,k)=>n == t && (k == .local || k == .cell))) = true):∀ env:Env,env.scope.kind = .function→env.kindOf t = some .local→swapsWith (.ListComp elt gens scope pos) (some (.Name t tp)) line env = pure true:=fun env hk hx=>by
 have hb:(env.blockKind == .function) = true:=by unfold Env.blockKind; rw [hk]; rfl
 have hx':(env.kindOf t == some .local) = true:=by rw [hx]; rfl
 show (pure ((env.blockKind == .function) && (env.kindOf t == some .local) && (tp.line == pos.line) && !(scope.names.any fun (n,k)=>n == t && (k == .local || k == .cell))):Sem Bool) = pure true
 rw [hb,hx',Bool.and_self,Bool.true_and,h]
theorem xZ {α:Sort _} {c:Prop} [Decidable c] {x y:α} (h:x = y):(if c then y else x) = y:=by cases h; exact ite_self _
theorem Ts {ts vs:List Expr} {k k':Nat} {tp vp:Pos} (h:vs.all (foldedForSure 8) = true) (env:Env):swappedStores [.Tuple ts k tp] (.Tuple vs k' vp) env = pure none:=xZ (xZ (xZ (if_pos h)))
noncomputable abbrev lv' (s:String) (a:AV):Str × AV:=(Str.ofString s,a)
theorem yK {c:Cell} {J:HS}:(H++c :: J)[H.length]? = some c:=by simp
theorem cz {c d:Cell} {J:HS}:(H++c :: J).set H.length d = H++d :: J:=by rw [List.set_append_right _ _ (Nat.le_refl _),Nat.sub_self]; rfl
theorem bV {H:HS} {x:AV} {xs:List AV} (h:LS H x xs) (i:Nat):y9 x i H = some xs[i]?:=by
 unfold y9; rw [h.of]; rfl
theorem LS.app {H J:HS} {x:AV} {xs:List AV} (h:LS H x xs):LS (H++J) x xs:=by
 rcases h with h | h | ⟨k,h,e⟩
 ·exact .inl h
 ·exact .inr (.inl h)
 ·exact .inr (.inr ⟨k,h,aw e⟩)
theorem b0 (cs:List Nat):(cs.map fun c=>[c]).flatten = cs:=by induction cs <;> simp_all
noncomputable abbrev ai (cs:List Nat):List AV:=cs.map fun c:Nat=>.int (c:Int)
theorem qN {x:AV} {ys:List (List Nat)} (hx:LS H x (ys.map .str)) (hz:ys.flatten.length≤100000) (h:Q (.str ys.flatten) H):ac (BB W) n (.builtin "str.join") [.str (ae ""),x] H Q:=by
 refine QW hx ?_ ?_
 ·rw [List.length_flatten] at hz
  show _ + ys.length * 0≤_
  simpa using hz
 ·show Q (.str (dO [] ys)) H
  rw [jE]
  exact h
theorem cH {m:Nat} {cs:List Nat}:AV.bds m (ai cs):=AV.bds_iff.mpr fun a ha=>by
 obtain ⟨c,_,rfl⟩:=List.mem_map.mp ha
 simp only [AV.bd]
theorem le1 {a:Nat} {b:Prop} (h1:a≤100000) (h2:b):a≤100000∧b:=⟨h1,h2⟩
end
section
open Lean in
def YY (r : String) : MacroM (TSyntax `tactic) := do
  let l := r.splitOn " "
  let nm (h : String) : MacroM (TSyntax `ident) := return mkIdent (← MonadQuotation.addMacroScope h.toName)
  let f := l.head!
  if f == "=" then `(tactic| tm_at $(Syntax.mkStrLit l.getLast!)) else
  let ts : Array (TSyntax `term) ← l.tail.toArray.mapM fun a => do
    if a == "_" then `(_) else
    if a == "rfl" then `(rfl) else
    if a.startsWith ":" then
      let b := (a.drop 1).toString
      return ⟨(← `(Lean.Parser.Term.namedArgument| ($(mkIdent b.toName) := ?$(← nm b))))⟩
    `(?$(← nm (a.splitOn "=").head!))
  let cs (n : Nat) := (l.toArray.filter fun a => (a.splitOn "=").length == n).mapM fun a => do
    `(tactic| case $(← nm (a.splitOn "=").head!):ident => tm_at $(Syntax.mkStrLit (a.splitOn "=").getLast!))
  let m (f : String) : MacroM (TSyntax `term) := if f == "⟨" then `(⟨$ts,*⟩) else return Syntax.mkApp (mkIdent f.toName) ts
  let t ← if f.startsWith "~" then do `(tactic| refine $(← m (f.drop 1).toString)) else do `(tactic| with_reducible refine $(← m f))
  `(tactic| ($[$(#[t] ++ (← cs 3) ++ (← cs 2))];*))
def YL : List (String × String) := [("mem", "Ys|Za h=mem"), ("up", "Up.head|Up.tail :r' h=up"), ("ups", "Ups.nil|Ups.cons :l' u=up v=ups"), ("hp", "= as|aB|yK|aw h=hp|aj :c0 h=hp|ao h1=ne h2==hp"), ("ls", "LS.lst|LS.arg|LS.cell h=hp"), ("keep", "iC|qQ|~Ut h=dec"), ("og", "OG.head|OG.tail h=og"), ("fu", "FU.head|FU.tail :r' h=fu"), ("pt", "ZV|ZW h=num"), ("tgt", "Tgt.name a=mem b=up|Tgt.tup :xs a=rfl b=decK c=ups"), ("oc", "= as|ca.obj|vk|ca.cell :fs hh=hp"), ("o", "~rm :m h=asr d=rfl|~rm0 :m h=asr d=rfl|~rm2 :m h=asr d=rfl|~up0 :m h=asr d=rfl|= lia|= omega"), ("l", "UI h|XK h|Qi h|Tv h|Mine.L.of h|Sr h|Fg h|Fd h|MI h|ZL h|ZM h|Z0 h|ZU h|ZS h|ZP h|ZY h|ZN h|ZB h|ZE h|ZJ h|Hf h|W9 h|Ln h|Ex h|XM h|XG h|RW h|Ve h|RP h|ZG h|ZC h|Vi h|b7 h1=decK h2|al h1=decK h2|⟨ _ rfl h1=keep h2|⟨ h1=keep h2|⟨ _ _ loc rfl h1=ups h2|⟨ _ loc rfl h1=ups h2|⟨ rfl h1=keep h2|⟨ loc h1=up h2|v8 h1=num h2|kG h1=icq h2=icq h3|Cr h1=icq h2=icq h3|Uo h1=num h2|ZH h1=num h2=dec h3|SG h1=mul h2|ZO h1=num h2=npl h3|ZK :fs :a :C :flds :fI hi=hp hc=cls hk=rfl hm=mem hd=ra h|XT :a :fI hc=cls hm=og hd=ra h|XN :f :fs :C :flds :fI mt=mt hc=cls hi==hp hk=rfl h|Ym :f :fI mt=mt hc=cls h|RQ :xs hk=hp h|Yp :xs hk=hp h|RR :xs hk=hp h|XH :kvs hk=hp h|bn :xs :a hx==ls h0=num h1=num ha=rfl h hs==i2|Zo :j :a h0=num h1=num hj==rfl ha=rfl h hs==i2|YB :lo :hi hz=num pl==pt pu==pt h hs==i3|XJ :xs hk=hp h0=num h1=num h2=num h|Zv :fs :fs' :C :flds :fI hi=hp hc=cls hk=rfl hu=fu hz=num h|X3 :fs :C :flds :fI :rest hi=hp hc=cls hk=rfl hz=num h|Dp :xs hx=ls hz=num h|Zr hz=num h|RO :xs hk=hp hz=num h|ZX :xs hx=ls h|ZQ :xs hx=ls h|ZD h1=num h2=num h3|le1 h1=le1 h2|isI h1=rfl h|isB h1=rfl h|isK :D h1=oc h2=rfl h|Ph :xs hx=rfl hl=decK h hs=rfl hw=hw|Ta h c=decK|Ij h hr=rfl c=rfl|YH :loc' t=tgt h"), ("w", "= l|~Mine.L.of h|ZR h|ZZ h|ZT h|ZF h"), ("cls", "wb|lb|Ch|AO|AU|xC|vC|vh|zd|zA|zT|xF|u9|wq|un|pY|ly|uI"), ("mt", "ua|Ey|DL|CI|yF|vN|wh|CU|vO|Al|Ae|Db|Cu|Ah|Ez|zH|Bk|vQ|Aj|A5|zI|Ak|Af|Ag|vV|vR|DQ|Ai|vU|nV|wi|ud|vS|vT|rp|pH|uc|pi|kI|nJ|ub|vP|ro|mO|vz|oI|y3"), ("ra", "= rfl|= as"), ("mul", "~PySem.IntMulOk.of_right h=dec|~PySem.IntMulOk.of_left h=dec"), ("npl", "~PyProof.noPylong_small h=dec"), ("le1", "= simpd|= lia"), ("hw", "= i1|~Ts h=decK"), ("ne", "= as|~Ne.symm h=as|= lia|~aF :a :b h1=as h2=as h3=icq"), ("num", "= asr|= dec|~XI h=rfl|~up0 :m h=asr d=rfl|Int.natCast_nonneg _|= lia|= simpd|= simpl")]
open Lean in
def YK (s : String) : MacroM (TSyntax `tactic) := do
  match YL.lookup s with
  | some r => `(tactic| first $[| $(← (r.splitOn "|").toArray.mapM YY):tactic]*)
  | none => match s with
    | "as" => `(tactic| assumption)
    | "asr" => `(tactic| with_reducible assumption)
    | "rfl" => `(tactic| rfl)
    | "dec" => `(tactic| decide)
    | "decK" => `(tactic| decide +kernel)
    | "icq" => `(tactic| (intro q; cases q))
    | "i1" => `(tactic| (intro _; rfl))
    | "i2" => `(tactic| (intro _ _; rfl))
    | "i3" => `(tactic| (intro _ _; exact ⟨_, rfl⟩))
    | "simpd" => `(tactic| (simp; done))
    | "simpl" => `(tactic| (simp; lia))
    | "lia" => `(tactic| lia)
    | "omega" => `(tactic| omega)
    | _ => `(tactic| ((try with_reducible refine xo_w ?_); repeat tm_at "w"))
end
variable {W : WW}
local macro_rules | `(tactic| tm_at $s:str)=>YK s.getString
section
set_option bootstrap.genMatcherCode false
noncomputable def SB (d:Nat) (H H':HS):Prop:=H'.length = H.length∧∀ j,j ≠ d→H'[j]? = H[j]?
theorem SB.refl {d:Nat} {H:HS}:SB d H H:=⟨rfl,fun zz zz=>rfl⟩
theorem SB.trans {d:Nat} {H H' H2:HS} (h:SB d H H') (k:SB d H' H2):SB d H H2:=⟨k.1.trans h.1,fun j hj=>(k.2 j hj).trans (h.2 j hj)⟩
theorem SB.set {d:Nat} {H:HS} {c:Cell}:SB d H (H.set d c):=⟨List.length_set ..,fun j hj=>List.getElem?_set_ne (Ne.symm hj)⟩
theorem SB.get {d j:Nat} {H H':HS} {c:Cell} (h:SB d H H') (hj:j ≠ d) (e:H[j]? = some c):H'[j]? = some c:=(h.2 j hj).trans e
theorem SB.app {d:Nat} {H H':HS} {c:Cell} (hd:d < H.length) (h:SB d (H++[c]) H'):∃ H0,H' = H0++[c]∧SB d H H0:=by
 have hl:H'.length = H.length + 1:=by rw [h.1]; simp
 refine ⟨H'.take H.length,?_,by rw [List.length_take]; lia,fun j hj=>?_⟩
 ·have e:H' = H'.take H.length++H'.drop H.length:=(List.take_append_drop _ _).symm
  have e2:H'.drop H.length = [c]:=by
   have hlt:H.length < H'.length:=by lia
   rw [List.drop_eq_getElem_cons hlt,List.drop_eq_nil_of_le (by tm_at "o")]
   have:=h.2 H.length (by tm_at "o")
   rw [List.getElem?_eq_getElem hlt] at this
   simp at this
   rw [this]
  rw [e2] at e
  exact e
 ·by_cases hlt:j < H.length
  ·rw [List.getElem?_take_of_lt hlt,h.2 j hj,List.getElem?_append_left hlt]
  ·rw [List.getElem?_eq_none (by rw [List.length_take]; lia),List.getElem?_eq_none (by tm_at "o")]
noncomputable def bv (H:HS) (d r:Nat):Prop:=∃ (xs:List Int) (p:Int),H[d]? = some (.list [.lst (xs.map .int),.int p])∧1≤xs.length∧xs.length≤41∧0≤p∧p + r≤1000000
theorem bv.lt {H:HS} {d r:Nat} (h:bv H d r):d < H.length:=by obtain ⟨xs,p,e,_⟩:=h; exact ar e
theorem bv.less {H:HS} {d r r':Nat} (h:bv H d r) (k:r'≤r):bv H d r':=by obtain ⟨xs,p,e,a,b,c,f⟩:=h; exact ⟨xs,p,e,a,b,c,by lia⟩
theorem bv.app {H J:HS} {d r:Nat} (h:bv H d r):bv (H++J) d r:=by obtain ⟨xs,p,e,r⟩:=h; exact ⟨xs,p,aw e,r⟩
theorem bv.of_app {H J:HS} {d r:Nat} (h:bv (H++J) d r) (hd:d < H.length):bv H d r:=by
 obtain ⟨xs,p,e,r⟩:=h
 rw [List.getElem?_append_left hd] at e
 exact ⟨xs,p,e,r⟩
set_option tactic.hygienic true in
theorem OI {a:Int} (h0:0≤a) (h1:a < 2 ^ 40):Builtin.Int.intBits a≤64:=by
 unfold Builtin.Int.intBits
 split
 ·lia
 ·rename_i h
  have hne:a.natAbs ≠ 0:=by simpa using h
  have:a.natAbs.log2 < 40:=(Nat.log2_lt hne).mpr (by tm_at "o")
  lia
theorem aS {n:Nat} {H:HS} {d r:Nat} {m:Int} {Q:AV→HS→Prop} (hn:2≤n) (hd:bv H d (r + 1)) (hm:0 < m) (h:∀ v H',0≤v→v < m→bv H' d r→SB d H H'→Q (.int v) H'):ac (BB W) n (.ref 2013) [.cell d,.int m] H Q:=by
 obtain ⟨xs,p,hd,hl1,hl2,hp0,hp1⟩:=hd
 have fin:∀ v:Int,0≤v→v < m→Q (.int v) (H.set d (.list [.lst (xs.map .int),.int (p + 1)])):=fun v h0 h1=>h v _ h0 h1 ⟨xs,p + 1,aj hd,hl1,hl2,by lia,by lia⟩ .set
 have hz:(xs.map AV.int).length≤100000:=by rw [List.length_map]; lia
 refine ab p8 (by tm_at "o") ?_
 tm_at "ww"
 ·refine eD (fun c=>?_) fun c=>?_
  ·rw [List.length_map] at c
   have c':p + 1 < (xs.length:Int):=of_decide_eq_true c
   tm_at "ww"
   obtain ⟨x,hx⟩:∃ x,xs[p.toNat]? = some x:=⟨_,List.getElem?_eq_getElem (by tm_at "o")⟩
   refine bn (a:=.int x) .lst (by tm_at "o") (by tm_at "o") ?_ ?_
   ·rw [List.getElem?_map]
    have:(p + 1 - 1).toNat = p.toNat:=by lia
    rw [this,hx]; rfl
   ·tm_at "ww"
    exact fin _ (Int.fmod_nonneg_of_pos _ hm) (Int.fmod_lt_of_pos _ hm)
  ·tm_at "ww"
   have hlen:((xs.map AV.int).length:Int) = xs.length:=by rw [List.length_map]
   ·refine Uo (by rw [hlen]; lia) ?_
    rw [hlen]
    have i0:0≤(p + 1).fmod (xs.length:Int):=Int.fmod_nonneg_of_pos _ (by tm_at "o")
    have i1:(p + 1).fmod (xs.length:Int) < xs.length:=Int.fmod_lt_of_pos _ (by tm_at "o")
    obtain ⟨x,hx⟩:∃ x,xs[((p + 1).fmod (xs.length:Int)).toNat]? = some x:=⟨_,List.getElem?_eq_getElem (by tm_at "o")⟩
    refine L.of ?_
    refine bn (a:=.int x) .lst i0 (by tm_at "o") (by rw [List.getElem?_map,hx]; rfl) ?_
    tm_at "ww"
    tm_at "ww"
    generalize hM:(x * 69069 + (p + 1) * 40503 + 12345).fmod 4294967291 = M
    have m0:0≤M:=by rw [← hM]; exact Int.fmod_nonneg_of_pos _ (by decide)
    have m1:M < 4294967291:=by rw [← hM]; exact Int.fmod_lt_of_pos _ (by decide)
    refine SG (.of_left (OI m0 (by tm_at "o"))) ?_
    tm_at "ww"
    exact fin _ (Int.fmod_nonneg_of_pos _ hm) (Int.fmod_lt_of_pos _ hm)
end
section
set_option bootstrap.genMatcherCode false
variable {n:Nat} {H:HS} {Q:AV→HS→Prop}
theorem gL {x:AV} {cs:List Nat} (hn:2≤n) (hx:LS H x (ai cs)) (hz:cs.length≤100000) (hv:∀ c ∈ cs,c≤1114111) (h:Q (.str cs) H):ac (BB W) n (.ref 26) [x] H Q:=by
 refine (aJ.pure fun zz zz=>?_).call
 refine am ki (by tm_at "o") ?_
 tm_at "in"
 ·refine bG (fr:=[]) (sc':=f6) (.of (by kernel_rfl) (by simp)) (by tm_at "mem") ?_
  refine gJ ?_
  tm_at "ww"
  refine ⟨_,hx,_,fun a=>match a with | .int c=>.str [c.toNat] | _=>.none,by simpa using hz,fun i J=>bV hx.app i,fun a J ha=>?_,?_⟩
  ·obtain ⟨c,hc,rfl⟩:=List.mem_map.mp ha
   have:=hv c hc
   tm_at "go"
   exact ⟨rfl,rfl⟩
  ·tm_at "ww"
   refine qN (ys:=cs.map fun c=>[c]) (.cell ?_) ?_ ?_
   ·rw [aB]; simp
   ·rw [b0]; exact hz
   ·tm_at "ww"
    rw [b0]
    exact ⟨⟨_,rfl⟩,trivial,h⟩
theorem cU {cs:List Nat} (i:Nat) (H:HS):qB cs i H = some ((cs.map fun c=>AV.str [c])[i]?):=by
 unfold qB; rw [List.getElem?_map]
theorem hD {cs:List Nat} (hn:2≤n) (hz:cs.length≤100000) (h:Q (.lst (ai cs)) H):ac (BB W) n (.ref 31) [.str cs] H Q:=by
 refine ab kc (by tm_at "o") ?_
 tm_at "ww"
 refine iO fun hw=>?_
 refine bG (fr:=[]) (sc':=gq) (.of (by kernel_rfl) (by simp)) (by tm_at "mem") ?_
 refine h9 ?_
 tm_at "ww"
 refine ⟨_,rfl,cs.map fun c=>AV.str [c],fun a=>match a with | .str [c]=>.int c | _=>.none,by simpa using hz,fun i J=>cU i _,fun a J ha=>?_,?_⟩
 ·obtain ⟨c,hc,rfl⟩:=List.mem_map.mp ha
  tm_at "go"
  exact ⟨rfl,rfl⟩
 ·rw [List.map_map]
  refine ⟨_,ai cs,rfl,rfl,Nat.le_refl _,hw,cH,?_⟩
  tm_at "ww"
  exact h
end
section
set_option bootstrap.genMatcherCode false
variable {n:Nat} {H:HS} {Q:AV→HS→Prop}
theorem Tq:eM.cps.toList = [48,49,50,51,52,53,54,55,56,57,97,98,99,100,101,102]:=by kernel_rfl
theorem Nt:∀ m,m < 10→eM.cps.toList[m]? = some (48 + m):=by
 rw [Tq]
 decide +kernel
theorem FW {m:Nat} (h:m < 10):eM.cps.toList[m]? = some (48 + m):=Nt m h
theorem Yi {k:Nat}:((k:Int).fdiv 10) = ((k / 10:Nat):Int):=by rw [Int.fdiv_eq_ediv_of_nonneg _ (by decide)]; lia
theorem Zd {k:Nat}:((k:Int).fmod 10) = ((k % 10:Nat):Int):=by rw [Int.fmod_eq_emod_of_nonneg _ (by decide)]; lia
noncomputable def pv:Nat→Nat→List Nat
 | 0,_=>[]
 | f + 1,m=>if m = 0 then [] else pv f (m / 10)++[48 + m % 10]
theorem Dz {f m:Nat} (h:m < 10 ^ (f + 1)):m / 10 < 10 ^ f:=by rw [Nat.div_lt_iff_lt_mul (by decide)]; rw [Nat.pow_succ] at h; exact h
theorem qO:∀ f m,m < 10 ^ f→pv (f + 1) m = pv f m
 | 0,m,h=>by
  have:m = 0:=by lia
  subst this; rfl
 | f + 1,m,h=>by
  have ih:=qO f (m / 10) (Dz h)
  show (if m = 0 then [] else pv (f + 1) (m / 10)++[48 + m % 10]) = if m = 0 then [] else pv f (m / 10)++[48 + m % 10]
  rw [ih]
noncomputable def oZ (m:Nat):List Nat:=pv 31 m
theorem zY {m:Nat} (h:m < 10 ^ 30) (h0:m ≠ 0):oZ m = oZ (m / 10)++[48 + m % 10]:=by
 show (if m = 0 then [] else pv 30 (m / 10)++[48 + m % 10]) = pv 31 (m / 10)++_
 rw [if_neg h0,qO 30 _ (by tm_at "o")]
noncomputable def dig (m:Nat):List Nat:=if m = 0 then [48] else oZ m
theorem vg:∀ f m,(pv f m).length≤f
 | 0,_=>Nat.le_refl _
 | f + 1,m=>by
  have:=vg f (m / 10)
  unfold pv
  split
  ·simp
  ·simp; lia
theorem ur (m:Nat):(oZ m).length≤31:=vg 31 m
theorem yh {m:Nat} (h:m < 10 ^ 30):(dig m).length≤31:=by
 have:=ur m
 unfold dig
 split
 ·simp
 ·lia
inductive FewI (m:Nat) (H:HS) (k:Nat) (loc:Loc) (H2:HS):Prop
 | mk (m':Nat) (ys:List (List Nat)) (o:Option AV) (e3:k = m') (e4:loc = [lv "number" (.int m'),lv "radix" (.int 10),lv "found" (.cell H.length),lq "figure" o]) (e5:H2 = H++[.list (ys.map .str)]) (e6:(∀ y ∈ ys,y.length = 1)) (e7:oZ m'++ys.reverse.flatten = oZ m) (e8:m' < 10 ^ 30) (e9:ys.length + (oZ m').length≤31)
theorem jL {m:Nat} (hn:2≤n) (hm:m < 10 ^ 30) (h:Q (.str (dig m)) H):ac (BB W) n (.ref 648) [.int m,.int 10] H Q:=by
 refine (aJ.pure fun zz zz=>?_).call
 refine am nT (by tm_at "o") ?_
 tm_at "in"
 refine eD (fun c=>?_) fun c=>?_
 ·tm_at "ww"
  have:m = 0:=by have:=of_decide_eq_true c; lia
  subst this
  exact ⟨⟨[],by simp⟩,trivial,h⟩
 ·have hm0:m ≠ 0:=by have:=of_decide_eq_false c; lia
  tm_at "ww"
  refine aR (aU ⟨by decide,?_⟩)
  tm_at "ww"
  refine bI (FewI m H) m ⟨m,[],none,rfl,rfl,rfl,by simp,by simp,hm,by simpa using ur m⟩ ?_
  rintro k _ _ ⟨m',ys,o,rfl,rfl,rfl,hy,hd,hb,hl⟩
  tm_at "ww"
  refine eD (fun c=>?_) fun c=>?_
  ·have c':k ≠ 0:=by have:=of_decide_eq_true c; lia
   tm_at "ww"
   refine Bv (by decide) (PyProof.noPylong_small (by decide)) ?_
   tm_at "ww"
   rw [Yi,Zd]
   refine bR (c:=48 + k % 10) (by tm_at "o") (by tm_at "o") (FW (by tm_at "o")) ?_
   tm_at "ww"
   have e:oZ k = oZ (k / 10)++[48 + k % 10]:=zY hb c'
   refine ⟨k / 10,by lia,k / 10,ys++[[48 + k % 10]],_,rfl,rfl,?_,?_,?_,by lia,?_⟩
   ·rw [aq]; simp
   ·simp; intro y h; rcases h with h | h; exact hy y h; simp [h]
   ·rw [← hd,e]; simp
   ·rw [e] at hl; simp at hl ⊢; lia
  ·have c':k = 0:=by have:=of_decide_eq_false c; lia
   subst c'
   tm_at "ww"
   have es:(ys.map List.length).sum = ys.length:=by
    clear hd hl
    induction ys with
    | nil=>rfl
    | cons y ys ih=>simp [hy y (.head _),ih fun z hz=>hy z (.tail _ hz)]; lia
   refine ⟨ys,.cell aB,?_,by lia,?_⟩
   ·rw [es]; show _ + _ * 0≤_; lia
   ·tm_at "ww"
    refine ⟨⟨_,rfl⟩,trivial,?_⟩
    have e:dO (ae "") ys.reverse = dig m:=by
     show dO [] _ = _
     rw [jE]
     have:oZ 0 = []:=rfl
     rw [this,List.nil_append] at hd
     rw [hd]; unfold dig; rw [if_neg hm0]
    rw [e]
    exact h
theorem eF {m:Nat} (hn:3≤n) (hm:m < 10 ^ 30) (h:Q (.str (dig m)) H):ac (BB W) n (.ref 655) [.int m,.int 10] H Q:=by
 refine (aJ.pure fun zz zz=>?_).call
 refine am pQ (by tm_at "o") ?_
 tm_at "in"
 refine aR (aU ⟨by decide,?_⟩)
 tm_at "ww"
 refine bc ?_
 tm_at "ww"
 refine ⟨decide_eq_false (by show ¬ (10:Int) ^ 64≤m; lia),?_⟩
 tm_at "ww"
 refine jL (by tm_at "o") hm ?_
 tm_at "ww"
 refine ⟨[],.cell aB,by simp,by simp,?_⟩
 refine L.of ?_
 refine v8 (y:=[]) ?_ ?_
 ·have:=yh hm; simp; lia
 ·rw [List.append_nil]
  tm_at "ww"
  exact ⟨⟨_,rfl⟩,trivial,h⟩
noncomputable def aH (k:Int):List Nat:=(if k < 0 then [45] else [])++dig k.natAbs
theorem uQ {k:Int} (hk:k.natAbs < 10 ^ 30):(aH k).length≤32:=by
 have:=yh hk
 unfold aH
 split <;> simp <;> lia
theorem lu {k:Int} (hn:4≤n) (hk:k.natAbs < 10 ^ 30) (h:Q (.str (aH k)) H):ac (BB W) n (.ref 662) [.int k,.int 10] H Q:=by
 refine ab pc (by tm_at "o") ?_
 tm_at "in"
 have e:(if k < 0 then -k else k) = (k.natAbs:Int):=by split <;> lia
 refine eD (fun c=>?_) fun c=>?_
 ·have c:=of_decide_eq_true c
  tm_at "ww"
  rw [e]
  refine eF (by tm_at "o") hk ?_
  have w:aH k = ae "-"++dig k.natAbs:=by unfold aH; rw [if_pos c]; rfl
  refine L.of ?_
  refine v8 (by have:=uQ hk; rw [w,List.length_append] at this; lia) ?_
  rw [← w]
  tm_at "ww"
  exact h
 ·have c:=of_decide_eq_false c
  tm_at "ww"
  rw [e]
  refine eF (by tm_at "o") hk ?_
  have w:aH k = ae ""++dig k.natAbs:=by unfold aH; rw [if_neg c]; rfl
  refine L.of ?_
  refine v8 (by have:=uQ hk; rw [w,List.length_append] at this; lia) ?_
  rw [← w]
  tm_at "ww"
  exact h
theorem lI {k:Int} (hn:5≤n) (hk:k.natAbs < 10 ^ 30) (h:Q (.str (aH k)) H):ac (BB W) n (.ref 669) [.int k,.int 10] H Q:=by
 refine ab oK (by tm_at "o") ?_
 tm_at "in"
 refine lu (by tm_at "o") hk ?_
 tm_at "ww"
 exact h
theorem tX {k:Int} (hn:1≤n) (h:Q (.bool false) H):ac (BB W) n (.ref 507) [.int k] H Q:=by
 refine ab wG (by tm_at "o") ?_
 tm_at "in"
 exact h
theorem kj {p k:Int} (hn:6≤n) (hk:k.natAbs < 10 ^ 30) (h:Q (.str (aH k)) H):ac (BB W) n (.ref 775) [.int p,.int k,.int 10] H Q:=by
 refine ab n7 (by tm_at "o") ?_
 tm_at "in"
 refine tX (by tm_at "o") ?_
 tm_at "ww"
 refine lI (by tm_at "o") hk ?_
 tm_at "ww"
 exact h
end
section
set_option bootstrap.genMatcherCode false
variable {n:Nat} {H:HS} {Q:AV→HS→Prop}
noncomputable def K40:List Int:=(List.range 40).map fun j:Nat=>(j:Int) - 20
theorem k40 {k:Int} (h0:-20≤k) (h1:k < 20):k ∈ K40:=List.mem_map.mpr ⟨(k + 20).toNat,List.mem_range.mpr (by tm_at "o"),by lia⟩
theorem Fk:K40.map (fun k=>Txt.lower ⟨(aH k).toArray⟩) = K40.map fun k=>⟨(aH k).toArray⟩:=by kernel_rfl
theorem C6:(List.range 21).map (fun m=>Txt.rstripChars ⟨(dig m).toArray⟩ ⟨(ae "#").toArray⟩) = (List.range 21).map fun m=>⟨(dig m).toArray⟩:=by kernel_rfl
theorem QV:(List.range 10).map (fun m=>Txt.find ⟨eM.cps⟩ ⟨#[48 + m]⟩) = (List.range 10).map fun m:Nat=>(m:Int):=by kernel_rfl
theorem UN:(List.range 10).map (fun m=>(Builtin.Str.occurrences ⟨eM.cps⟩ ⟨#[48 + m]⟩ 0 (Str.length ⟨eM.cps⟩) 1).isEmpty) = (List.range 10).map fun m=>false:=by kernel_rfl
theorem Eh:(List.range 21).all (fun m=>(dig m).all (fun c=>decide (48≤c) && decide (c≤57)) && decide (dig m ≠ []) && decide ((dig m).length≤2)) = true:=by kernel_rfl
theorem Uc:xO.cps.toList = [101,115,102,100,108]:=by kernel_rfl
noncomputable def qY (ds:List Nat):Int:=ds.foldl (fun (a:Int) c=>a * 10 + ((c - 48:Nat):Int)) 0
theorem E5:(List.range 21).map (fun m=>qY (dig m)) = (List.range 21).map fun m:Nat=>(m:Int):=by kernel_rfl
theorem y4 {m c:Nat} (hm:m < 21) (h:c ∈ dig m):48≤c∧c≤57:=by
 have k:=List.all_eq_true.mp Eh m (List.mem_range.mpr hm)
 simp only [Bool.and_eq_true,List.all_eq_true,decide_eq_true_eq] at k
 exact k.1.1 c h
theorem xK {m:Nat} (hm:m < 21):dig m ≠ []∧(dig m).length≤2:=by
 have k:=List.all_eq_true.mp Eh m (List.mem_range.mpr hm)
 simp only [Bool.and_eq_true,List.all_eq_true,decide_eq_true_eq] at k
 exact ⟨k.1.2,k.2⟩
theorem zS {c:Nat} (c0:48≤c) (c1:c≤57) (h:Q (.int ((c - 48:Nat):Int)) H):ac (BB W) n (.builtin "str.index") [.str eM.cps.toList,.str [c]] H Q:=by
 have e:c = 48 + (c - 48):=by lia
 have ef:Txt.find ⟨eM.cps.toList.toArray⟩ ⟨#[c]⟩ = ((c - 48:Nat):Int):=by
  have:=bp QV (List.mem_range.mpr (show c - 48 < 10 by lia))
  rw [← e] at this
  exact this
 have eo:(Builtin.Str.occurrences ⟨eM.cps.toList.toArray⟩ ⟨#[c]⟩ 0 (Str.length ⟨eM.cps.toList.toArray⟩) 1).isEmpty = false:=by
  have:=bp UN (List.mem_range.mpr (show c - 48 < 10 by lia))
  rw [← e] at this
  exact this
 refine F8 ?_ eo ?_
 ·show 0≤Txt.find _ ⟨#[c]⟩
  rw [ef]; lia
 ·show Q (.int (Txt.find _ ⟨#[c]⟩)) H
  rw [ef]; exact h
inductive AfI (m:Nat) (H:HS) (i:Nat) (loc:Loc) (H2:HS):Prop
 | mk (e0:H2 = H) (o:Option AV) (e2:loc = [lv "figures" (.str (dig m)),lv "radix" (.int 10),lv "found" (.int (qY ((dig m).take i))),lq "sign" o])
theorem qk {m:Nat} (hn:2≤n) (hm:m < 21) (h:Q (.int m) H):ac (BB W) n (.ref 782) [.str (dig m),.int 10] H Q:=by
 refine ab uW (by tm_at "o") ?_
 tm_at "in"
 refine cB (h9 ?_)
 tm_at "ww"
 refine ⟨_,rfl,AfI m H,(dig m).length,⟨rfl,none,rfl⟩,?_⟩
 rintro i loc H2 ⟨rfl,o,rfl⟩
 rw [cU]
 cases hx:((dig m).map fun c=>AV.str [c])[i]? with
 | none =>
  have hi:(dig m).length≤i:=by simpa using List.getElem?_eq_none_iff.mp hx
  rw [List.take_of_length_le hi]
  have e:qY (dig m) = m:=bp E5 (List.mem_range.mpr hm)
  rw [e]
  tm_at "ww"
  exact h
 | some a =>
  rw [List.getElem?_map] at hx
  obtain ⟨c,hc,rfl⟩:=Option.map_eq_some_iff.mp hx
  have hlt:i < (dig m).length:=(List.getElem?_eq_some_iff.mp hc).1
  obtain ⟨c0,c1⟩:=y4 hm (List.mem_of_getElem? hc)
  refine ⟨hlt,_,.name (by tm_at "mem") (by tm_at "up"),?_⟩
  tm_at "ww"
  refine zS c0 c1 ?_
  tm_at "ww"
  have e:qY ((dig m).take (i + 1)) = qY ((dig m).take i) * 10 + ((c - 48:Nat):Int):=by
   rw [List.take_add_one,hc]
   unfold qY
   rw [List.foldl_append]
   rfl
  exact ⟨rfl,some (.str [c]),by rw [e]⟩
theorem CJ {α:Type} {l:List α}:(l.map fun zz=>true).all id = true:=by simp
theorem j3 {m:Nat} (hn:2≤n) (hm:m < 21) (h:Q (.bool true) H):ac (BB W) n (.ref 787) [.str (dig m),.int 10] H Q:=by
 refine (aJ.pure fun zz zz=>?_).call
 refine am mY (by tm_at "o") ?_
 tm_at "in"
 ·refine bG (fr:=[("radix",.int 10)]) (sc':=iZ) (.of (by kernel_rfl) (by simp)) (by tm_at "mem") ?_
  refine h9 ?_
  tm_at "ww"
  refine ⟨_,rfl,(dig m).map fun c=>AV.str [c],fun zz=>.bool true,by have:=(xK hm).2; simp; lia,fun i J=>cU i _,fun a J ha=>?_,?_⟩
  ·obtain ⟨c,hc,rfl⟩:=List.mem_map.mp ha
   obtain ⟨c0,c1⟩:=y4 hm hc
   tm_at "go"
   refine ⟨?_,rfl⟩
   have:c ∈ bh eM.cps.toList none (some (10:Int).toNat):=by
    rw [Tq]
    show c ∈ [48,49,50,51,52,53,54,55,56,57]
    simp; lia
   rw [decide_eq_true this]
  ·tm_at "ww"
   refine AS (bs:=(dig m).map fun zz=>true) (.cell (by rw [aB]; simp)) ?_
   rw [CJ]
   tm_at "ww"
   exact ⟨⟨_,rfl⟩,trivial,h⟩
theorem Ox {m:Nat} (hm:m < 21):(dig m).length≤100000:=by have:=(xK hm).2; lia
theorem vy {m:Nat} (hn:2≤n) (hm:m < 21) (h:Q (.tup [.str (dig m),.int 0]) H):ac (BB W) n (.ref 794) [.str (dig m)] H Q:=by
 have hz:=Ox hm
 refine ab zu (by tm_at "o") ?_
 tm_at "in"
 refine zq (z:=dig m) hz (bp C6 (List.mem_range.mpr hm)) ?_
 tm_at "ww"
 rw [Int.sub_self]
 exact h
theorem sn {a b c:AV} (hn:2≤n) (h:Q (.obj 811 ["top","bottom","is_exact"] [a,b,c]) H):ac (BB W) n (.ref 811) [a,b,c] H Q:=by
 refine ft vh (by tm_at "o") (fun m h=>h) rfl ?_ h
 refine am gg (by tm_at "o") ?_
 tm_at "in"
 simp only [aq]
 exact ⟨trivial,rfl⟩
theorem lZ {m:Nat} (hn:3≤n) (hm:m < 21) (h:Q (.obj 811 ["top","bottom","is_exact"] [.int m,.int 1,.bool true]) H):ac (BB W) n (.ref 822) [.str (dig m),.int 10] H Q:=by
 have hne:(dig m == ae "") = false:=beq_eq_false_iff_ne.mpr (xK hm).1
 refine ab oM (by tm_at "o") ?_
 tm_at "in"
 refine vy (by tm_at "o") hm ?_
 tm_at "ww"
 refine al hne ?_
 tm_at "ww"
 refine j3 (by tm_at "o") hm ?_
 tm_at "ww"
 refine qk (by tm_at "o") hm ?_
 tm_at "ww"
 refine sn (by tm_at "o") ?_
 tm_at "ww"
 have e:(m:Int) * 10 ^ Int.toNat 0 = m:=by show (m:Int) * 1 = m; lia
 rw [e]
 exact h
theorem kQ {m:Nat} (hn:2≤n) (hm:m < 21) (h:Q (.int (dig m).length) H):ac (BB W) n (.ref 848) [.str (dig m)] H Q:=by
 have hz:=Ox hm
 refine (aJ.pure fun zz zz=>?_).call
 refine am qu (by tm_at "o") ?_
 tm_at "ww"
 refine (gE (sc':=jY) (loc0:=cu [] ["place","sign"]) (.of (fr:=[]) (by kernel_rfl) (by simp)) (by tm_at "mem") ?_ (by intro _ _; rfl) ?_)
 ·refine Fc ?_
  tm_at "ww"
  refine ⟨_,rfl,fun i loc H2=>H2 = H++[.list []]∧∃ o1 o2,loc = [lq "place" o1,lq "sign" o2],(dig m).length,⟨rfl,none,none,rfl⟩,?_⟩
  rintro i loc H2 ⟨rfl,o1,o2,rfl⟩
  unfold jC
  cases hx:(dig m)[i]? with
  | none =>
   show ∃ _,_
   tm_at "ww"
   exact ⟨⟨_,rfl⟩,trivial,h⟩
  | some c =>
   obtain ⟨c0,c1⟩:=y4 hm (List.mem_of_getElem? hx)
   refine ⟨(List.getElem?_eq_some_iff.mp hx).1,_,.tup rfl (by decide +kernel) (.cons .head (.cons (.tail .head) .nil)),?_⟩
   simp only [gG]
   tm_at "ww"
   have:decide (c ∈ xO.cps.toList) = false:=decide_eq_false (by rw [Uc]; simp; lia)
   refine al this ?_
   exact ⟨rfl,some _,some _,rfl⟩
 ·exact mj (by decide +kernel)
theorem AN {a:Int} (hn:1≤n) (h:Q (.int 1) H):ac (BB W) n (.ref 626) [.int a,.int 1] H Q:=by
 refine ab zZ (by tm_at "o") ?_
 tm_at "in"
 refine bI (fun k loc H2=>H2 = H∧((k = 1∧∃ b,loc = [lv "one" (.int b),lv "other" (.int 1)]) ∨ (k = 0∧loc = [lv "one" (.int 1),lv "other" (.int 0)]))) 1 ⟨rfl,.inl ⟨rfl,_,rfl⟩⟩ ?_
 rintro k loc _ ⟨rfl,⟨rfl,b,rfl⟩ | ⟨rfl,rfl⟩⟩
 ·tm_at "ww"
  refine ⟨0,by decide,rfl,.inr ⟨rfl,?_⟩⟩
  rw [Int.fmod_one]
 ·tm_at "ww"
  exact h
theorem Ac {a:Int} (hn:1≤n) (h:Q (.int a) H):ac (BB W) n (.ref 633) [.int a,.int 1] H Q:=by
 refine ab EO (by tm_at "o") ?_
 tm_at "in"
 exact h
theorem pS {a:Int} (hn:2≤n) (h:Q (.int a) H):ac (BB W) n (.ref 640) [.int a,.int 1] H Q:=by
 refine ab u5 (by tm_at "o") ?_
 tm_at "in"
 refine AN (by tm_at "o") ?_
 tm_at "ww"
 rw [Int.fdiv_one]
 refine Ac (by tm_at "o") ?_
 tm_at "ww"
 exact h
theorem gC {p a:Int} (hn:3≤n) (h:Q (.int a) H):ac (BB W) n (.ref 883) [.int p,.int a,.int 1,.bool true] H Q:=by
 refine ab vI (by tm_at "o") ?_
 tm_at "in"
 refine pS (by tm_at "o") ?_
 tm_at "ww"
 exact h
theorem cR {m:Nat} (hn:4≤n) (hm:m < 21) (h:Q (.obj 811 ["top","bottom","is_exact"] [.int m,.int 1,.bool true]) H):ac (BB W) n (.ref 869) [.str (dig m),.int 10] H Q:=by
 have hz:=Ox hm
 have no:∀ c:Nat,c < 48→decide (c ∈ dig m) = false:=fun c hc=>decide_eq_false fun q=>by have:=(y4 hm q).1; lia
 refine ab jr (by tm_at "o") ?_
 tm_at "in"
 refine Hf (c:=47) ?_
 tm_at "ww"
 refine al (no 47 (by decide)) ?_
 tm_at "ww"
 refine Hf (c:=46) ?_
 tm_at "ww"
 refine al (no 46 (by decide)) ?_
 tm_at "ww"
 refine kQ (by tm_at "o") hm ?_
 tm_at "ww"
 refine al (by simp) ?_
 tm_at "ww"
 refine lZ (by tm_at "o") hm ?_
 tm_at "ww"
 exact h
theorem Tm:K40.all (fun k=>(bh (aH k) (some 0) (some 1) != [35]) && (bh (aH k) (some 0) none == aH k) && ((bh (aH k) none (some 1) == [45]) == decide (k < 0)) && (([ae "+",ae "-"].any (· == bh (aH k) none (some 1))) == decide (k < 0)) && (if k < 0 then bh (aH k) (some 1) none == dig k.natAbs else aH k == dig k.natAbs) && decide ((aH k).length≤3)) = true:=by kernel_rfl
theorem Hn {k:Int} (h0:-20≤k) (h1:k < 20):(bh (aH k) (some 0) (some 1) == [35]) = false∧bh (aH k) (some 0) none = aH k∧(bh (aH k) none (some 1) == [45]) = decide (k < 0)∧([ae "+",ae "-"].any (· == bh (aH k) none (some 1))) = decide (k < 0)∧(k < 0→bh (aH k) (some 1) none = dig k.natAbs)∧(¬ k < 0→aH k = dig k.natAbs)∧(aH k).length≤3:=by
 have q:=List.all_eq_true.mp Tm k (k40 h0 h1)
 simp only [Bool.and_eq_true,beq_iff_eq,bne_iff_ne,decide_eq_true_eq] at q
 obtain ⟨⟨⟨⟨⟨q1,q2⟩,q3⟩,q4⟩,q5⟩,q6⟩:=q
 refine ⟨beq_eq_false_iff_ne.mpr q1,q2,q3,q4,fun c=>?_,fun c=>?_,q6⟩
 ·rw [if_pos c] at q5; simpa using q5
 ·rw [if_neg c] at q5; simpa using q5
theorem fY {k:Int} (h0:-20≤k) (h1:k < 20) (hn:1≤n) (h:Q (.tup [.str (aH k),.int 10,.str (ae "")]) H):ac (BB W) n (.ref 876) [.str (aH k),.int 10] H Q:=by
 obtain ⟨q1,q2,q3,q4,q5,q6,q7⟩:=Hn h0 h1
 refine ab ir (by tm_at "o") ?_
 tm_at "in"
 refine bc ?_
 tm_at "ww"
 refine ⟨q1,?_⟩
 tm_at "ww"
 have q2':bh (aH k) (some (Int.toNat 0)) none = aH k:=q2
 rw [q2']
 exact h
theorem iN {p k:Int} (h0:-20≤k) (h1:k < 20) (hn:5≤n) (h:Q (.int k) H):ac (BB W) n (.ref 891) [.int p,.str (aH k),.int 10] H Q:=by
 obtain ⟨q1,q2,q3,q4,q5,q6,q7⟩:=Hn h0 h1
 refine ab lR (by tm_at "o") ?_
 tm_at "in"
 refine Fp (by tm_at "o") (bp Fk (k40 h0 h1)) ?_
 tm_at "ww"
 refine fY h0 h1 (by tm_at "o") ?_
 tm_at "ww"
 have q3':(bh (aH k) none (some (Int.toNat 1)) == ae "-") = decide (k < 0):=q3
 by_cases c:k < 0
 ·refine b7 (by rw [q3',decide_eq_true c]) ?_
  tm_at "ww"
  refine eB (ys:=[ae "+",ae "-"]) ?_
  tm_at "ww"
  refine b7 (by show List.any _ _ = true; rw [← decide_eq_true c]; exact q4) ?_
  tm_at "ww"
  rw [show bh (aH k) (some (Int.toNat 1)) none = dig k.natAbs from q5 c]
  refine cR (by tm_at "o") (by tm_at "o") ?_
  tm_at "ww"
  rw [show -1 * (k.natAbs:Int) = k by lia]
  refine gC (by tm_at "o") ?_
  tm_at "ww"
  exact h
 ·refine al (by rw [q3',decide_eq_false c]) ?_
  tm_at "ww"
  refine eB (ys:=[ae "+",ae "-"]) ?_
  tm_at "ww"
  refine al (by show List.any _ _ = false; rw [← decide_eq_false c]; exact q4) ?_
  tm_at "ww"
  rw [q6 c]
  refine cR (by tm_at "o") (by tm_at "o") ?_
  tm_at "ww"
  rw [show 1 * (k.natAbs:Int) = k by lia]
  refine gC (by tm_at "o") ?_
  tm_at "ww"
  exact h
end
section
set_option bootstrap.genMatcherCode false
variable {n:Nat} {H:HS} {Q:AV→HS→Prop}
theorem jp {a:AV} (hn:2≤n) (h:Q (.obj 324 ["code"] [a]) H):ac (BB W) n (.ref 324) [a] H Q:=by
 refine ft AO (by tm_at "o") (fun m h=>h) rfl ?_ h
 refine am j6 (by tm_at "o") ?_
 tm_at "in"
 simp only [aq]
 exact ⟨trivial,rfl⟩
theorem XW {m:Nat} {a b:AV} (h:AV.bds m [a,b]):AV.bds m [a,b,.none]:=by simp only [AV.bds,AV.bd] at h ⊢; exact ⟨h.1,h.2.1,trivial,trivial⟩
theorem V5 {m:Nat} {a:AV} (h:AV.bds m [a]):AV.bds m [a,.none]:=by simp only [AV.bds,AV.bd] at h ⊢; exact ⟨h.1,trivial,trivial⟩
theorem qA {a b:AV} (hn:2≤n) (h:Q (.obj 303 ["car","cdr","mark"] [a,b,.none]) H):ac (BB W) n (.ref 303) [a,b] H Q:=by
 refine ft Ch (by tm_at "o") (fun m h=>XW h) rfl ?_ h
 refine am j9 (by tm_at "o") ?_
 tm_at "in"
 simp only [aq]
 exact ⟨trivial,rfl⟩
theorem qE {a:AV} (hn:2≤n) (h:Q (.obj 345 ["codes","mark"] [a,.none]) H):ac (BB W) n (.ref 345) [a] H Q:=by
 refine ft AU (by tm_at "o") (fun m h=>V5 h) rfl ?_ h
 refine am jU (by tm_at "o") ?_
 tm_at "in"
 simp only [aq]
 exact ⟨trivial,rfl⟩
theorem kA {a:AV} (hn:2≤n) (h:Q (.obj 366 ["things","mark"] [a,.none]) H):ac (BB W) n (.ref 366) [a] H Q:=by
 refine ft xC (by tm_at "o") (fun m h=>V5 h) rfl ?_ h
 refine am gX (by tm_at "o") ?_
 tm_at "in"
 simp only [aq]
 exact ⟨trivial,rfl⟩
theorem tT {a:AV} (hn:2≤n) (h:Q (.obj 429 ["number"] [a]) H):ac (BB W) n (.ref 429) [a] H Q:=by
 refine ft vC (by tm_at "o") (fun m h=>h) rfl ?_ h
 refine am fQ (by tm_at "o") ?_
 tm_at "in"
 simp only [aq]
 exact ⟨trivial,rfl⟩
theorem mZ {a b c d:AV} (hn:2≤n) (h:Q (.obj 917 ["word","value","start","end"] [a,b,c,d]) H):ac (BB W) n (.ref 917) [a,b,c,d] H Q:=by
 refine ft zd (by tm_at "o") (fun m h=>h) rfl ?_ h
 refine am iK (by tm_at "o") ?_
 tm_at "in"
 simp only [aq]
 exact ⟨trivial,rfl⟩
theorem uT {a b:AV} (hn:2≤n) (h:Q (.cell H.length) (H++[Cell.inst 219 [lv' "number" a,lv' "text" b]])):ac (BB W) n (.ref 219) [a,b] H Q:=by
 refine bX wb (by tm_at "o") ?_
 refine am ie (by tm_at "o") ?_
 tm_at "in"
 simp only [aq]
 exact ⟨trivial,h⟩
noncomputable def Ext (S:List Nat) (H H':HS):Prop:=H.length≤H'.length∧∀ j,j < H.length→j ∉ S→H'[j]? = H[j]?
theorem Ext.refl {S:List Nat} {H:HS}:Ext S H H:=⟨Nat.le_refl _,fun zz zz zz=>rfl⟩
theorem Ext.trans {S:List Nat} {H H' H2:HS} (h:Ext S H H') (k:Ext S H' H2):Ext S H H2:=⟨Nat.le_trans h.1 k.1,fun j hj hs=>(k.2 j (Nat.lt_of_lt_of_le hj h.1) hs).trans (h.2 j hj hs)⟩
theorem Ext.app {S:List Nat} {H H':HS} {c:Cell} (h:Ext S H H'):Ext S H (H'++[c]):=⟨by have:=h.1; simp; lia,fun j hj hs=>by rw [List.getElem?_append_left (Nat.lt_of_lt_of_le hj h.1)]; exact h.2 j hj hs⟩
theorem Ext.set {S:List Nat} {H H':HS} {i:Nat} {c:Cell} (h:Ext S H H') (hi:i ∈ S ∨ H.length≤i):Ext S H (H'.set i c):=⟨by rw [List.length_set]; exact h.1,fun j hj hs=>by
 rw [List.getElem?_set_ne (by rintro rfl; rcases hi with hi | hi; exact hs hi; lia)]
 exact h.2 j hj hs⟩
theorem Ext.get {S:List Nat} {H H':HS} {j:Nat} {c:Cell} (h:Ext S H H') (hs:j ∉ S) (e:H[j]? = some c):H'[j]? = some c:=(h.2 j (ar e) hs).trans e
theorem Ext.mono {S S':List Nat} {H H':HS} (h:Ext S H H') (k:∀ j ∈ S,j ∈ S'):Ext S' H H':=⟨h.1,fun j hj hs=>h.2 j hj fun q=>hs (k j q)⟩
theorem SB.ext {d:Nat} {H H':HS} (h:SB d H H'):Ext [d] H H':=⟨Nat.le_of_eq h.1.symm,fun j zz hs=>h.2 j (by simpa using hs)⟩
noncomputable abbrev Gs:=List (List Nat × Nat)
noncomputable def GLe (G G':Gs):Prop:=∀ y k,G.lookup y = some k→G'.lookup y = some k
theorem GLe.trans {G G' G2:Gs} (h:GLe G G') (k:GLe G' G2):GLe G G2:=fun y m e=>k y m (h y m e)
noncomputable def eX:List (List Nat):=[[97],[98,49],[43],[46,46,46],[120,45,62,121],[45]]
noncomputable def dictOf (G:Gs):List (Str × AV):=G.map fun g=>(⟨g.1.toArray⟩,.cell g.2)
structure SymT (H:HS) (i j:Nat) (G:Gs):Prop where
 rows:∃ xs,H[i]? = some (.list xs)∧xs.length = G.length
 by_text:H[j]? = some (.dict (dictOf G))
 syms:∀ g ∈ G,∃ a,H[g.2]? = some (.inst 219 [lv' "number" a,lv' "text" (.str g.1)])
 nd:(G.map (fun zz=>zz.1)).Nodup
 ok:∀ g ∈ G,g.1 ∈ eX
theorem CY {α:Type} [DecidableEq α]:∀ (l s:List α),l.Nodup→(∀ a ∈ l,a ∈ s)→l.length≤s.length
 | [],_,_,_=>Nat.zero_le _
 | a :: l,s,h,k=>by
  obtain ⟨h1,h2⟩:=List.nodup_cons.mp h
  have m:a ∈ s:=k a (.head _)
  have:=CY l (s.erase a) h2 fun b hb=>(List.mem_erase_of_ne (by rintro rfl; exact h1 hb)).mpr (k b (.tail _ hb))
  rw [List.length_erase_of_mem m] at this
  have:=List.length_pos_of_mem m
  simp; lia
theorem SymT.len {H:HS} {i j:Nat} {G:Gs} (h:SymT H i j G):G.length≤6:=by
 have:=CY (G.map (fun zz=>zz.1)) eX h.nd fun a ha=>by obtain ⟨g,hg,rfl⟩:=List.mem_map.mp ha; exact h.ok g hg
 simpa [eX] using this
theorem jn (x:List Nat):∀ G:Gs,(dictOf G).lookup ⟨x.toArray⟩ = (G.lookup x).map .cell
 | []=>rfl
 | g :: G=>by
  show (match (⟨x.toArray⟩:Str) == ⟨g.1.toArray⟩ with | true=>some _ | false=>(dictOf G).lookup _) = _
  rw [jn x G,List.lookup_cons,Dy]
  cases x == g.1 <;> rfl
set_option tactic.hygienic true in
theorem jl {x:List Nat} {k:Nat}:∀ {G:Gs},G.lookup x = some k→(x,k) ∈ G
 | g :: G,h=>by
  rw [List.lookup_cons] at h
  split at h
  ·rename_i e
   obtain rfl:=eq_of_beq e
   cases h
   exact .head _
  ·exact .tail _ (jl h)
theorem uf {x y:List Nat} {k m:Nat}:∀ {G:Gs},G.lookup y = some m→(G++[(x,k)]).lookup y = some m
 | g :: G,h=>by
  rw [List.cons_append,List.lookup_cons]
  rw [List.lookup_cons] at h
  split at h
  ·exact h
  ·exact uf h
theorem ug {x:List Nat} {k:Nat}:∀ {G:Gs},G.lookup x = none→(G++[(x,k)]).lookup x = some k
 | [],_=>by show (match x == x with | true=>some k | false=>none) = _; rw [beq_self_eq_true]
 | g :: G,h=>by
  rw [List.cons_append,List.lookup_cons]
  rw [List.lookup_cons] at h
  split at h
  ·cases h
  ·exact ug h
set_option tactic.hygienic true in
theorem qP {x:List Nat}:∀ {G:Gs},G.lookup x = none→x ∉ G.map (fun zz=>zz.1)
 | [],_=>by simp
 | g :: G,h=>by
  rw [List.lookup_cons] at h
  split at h
  ·cases h
  ·rename_i e
   rw [List.map_cons,List.mem_cons]
   rintro (rfl | q)
   ·simp at e
   ·exact qP h q
theorem kD {t i j:Nat} {G:Gs} {x:List Nat} (hn:3≤n) (ht:H[t]? = some (.inst 282 [lv' "rows" (.cell i),lv' "by_text" (.cell j)])) (hs:SymT H i j G) (hx:x ∈ eX)
  (h:∀ k G' H',GLe G G'→G'.lookup x = some k→SymT H' i j G'→Ext [i,j] H H'→(G.lookup x ≠ none→H' = H∧G' = G)→Q (.cell k) H'):ac (BB W) n (.ref 244) [.cell t,.str x] H Q:=by
 have hlen:=hs.len
 obtain ⟨⟨xs,e1,l1⟩,e2,e3,e4,e5⟩:=hs
 have hij:i ≠ j:=aF e1 e2 (by intro q; cases q)
 refine ab eV (by tm_at "o") ?_
 tm_at "in"
 refine MA (show 2≤2053 by decide) e2 ?_
 rw [jn]
 tm_at "ww"
 cases hl:G.lookup x with
 | some k =>
  show CMP _ _ .Is (.cell k) .none _ _
  tm_at "ww"
  exact h k G H (fun zz zz q=>q) hl ⟨⟨xs,e1,l1⟩,e2,e3,e4,e5⟩ .refl fun zz=>⟨rfl,rfl⟩
 | none =>
  show CMP _ _ .Is .none .none _ _
  tm_at "ww"
  refine uT (by tm_at "o") ?_
  tm_at "ww"
  refine Gk (kvs:=dictOf G) (by tm_at "hp") ?_ (by rw [jn,hl]; rfl) ?_
  ·unfold dictOf; rw [List.length_map]; lia
  tm_at "ww"
  have hi:=ar e1
  have hj:=ar e2
  have ed:dictOf G++[(⟨x.toArray⟩,.cell H.length)] = dictOf (G++[(x,H.length)]):=by unfold dictOf; simp
  refine h H.length (G++[(x,H.length)]) _ (fun y m q=>uf q) (ug hl) ⟨⟨_,by tm_at "hp",by simp [l1]⟩,by rw [← ed]; tm_at "hp",?_,?_,?_⟩ (((Ext.refl.app).set (.inl (.head _))).set (.inl (.tail _ (.head _)))) fun q=>(q hl).elim
  ·intro g hg
   rcases List.mem_append.mp hg with hg | hg
   ·obtain ⟨a,e⟩:=e3 g hg
    exact ⟨a,by tm_at "hp"⟩
   ·obtain rfl:=List.mem_singleton.mp hg
    exact ⟨.int xs.length,ao (by tm_at "o") (ao (by tm_at "o") aB)⟩
  ·rw [List.map_append,List.nodup_append]
   refine ⟨e4,by simp,?_⟩
   intro a ha b hb
   have:b = x:=by simpa using hb
   subst this
   rintro rfl
   exact qP hl ha
  ·intro g hg
   rcases List.mem_append.mp hg with hg | hg
   ·exact e5 g hg
   ·obtain rfl:=List.mem_singleton.mp hg
    exact hx
end
section
set_option bootstrap.genMatcherCode false
variable {n:Nat} {H:HS} {Q:AV→HS→Prop}
theorem QG {s:AV} (hn:1≤n) (h:Q (.val (.ref 201)) H):ac (BB W) n (.ref 1596) [s] H Q:=by
 refine ab hZ (by tm_at "o") ?_
 tm_at "in"
 exact h
theorem cL {s:AV} (hn:1≤n) (h:Q (.val (.ref 198)) H):ac (BB W) n (.ref 1575) [s] H Q:=by
 refine ab cF (by tm_at "o") ?_
 tm_at "in"
 exact h
theorem FC {s a b:AV} (hn:3≤n) (h:Q (.obj 303 ["car","cdr","mark"] [a,b,.none]) H):ac (BB W) n (.ref 1610) [s,a,b] H Q:=by
 refine ab fV (by tm_at "o") ?_
 tm_at "in"
 refine qA (by tm_at "o") ?_
 tm_at "ww"
 exact h
theorem me {s a:AV} (hn:3≤n) (h:Q (.obj 324 ["code"] [a]) H):ac (BB W) n (.ref 1673) [s,a] H Q:=by
 refine ab gy (by tm_at "o") ?_
 tm_at "in"
 refine jp (by tm_at "o") ?_
 tm_at "ww"
 exact h
theorem yD {s a:AV} (hn:3≤n) (h:Q (.obj 429 ["number"] [a]) H):ac (BB W) n (.ref 1841) [s,a] H Q:=by
 refine ab gb (by tm_at "o") ?_
 tm_at "in"
 refine tT (by tm_at "o") ?_
 tm_at "ww"
 exact h
theorem D6 {s a:AV} (hn:1≤n) (h:Q a H):ac (BB W) n (.ref 1876) [s,a] H Q:=by
 refine ab ff (by tm_at "o") ?_
 tm_at "in"
 exact h
theorem oN {s a:AV} (hn:1≤n) (h:Q a H):ac (BB W) n (.ref 1883) [s,a] H Q:=by
 refine ab dg (by tm_at "o") ?_
 tm_at "in"
 exact h
theorem wT {s x:AV} {D:Nat} (hn:1≤n) (hx:ca (BB W) H x D) (hd:dsL.contains D = true) (h:Q (.bool (D == 324)) H):ac (BB W) n (.ref 1680) [s,x] H Q:=by
 refine ab dZ (by tm_at "o") ?_
 tm_at "in"
 refine isK hx (by rw [hd]; rfl) ?_
 tm_at "ww"
 exact h
theorem rP {s x:AV} {D:Nat} (hn:1≤n) (hx:ca (BB W) H x D) (hd:dsL.contains D = true) (h:Q (.bool (D == 345)) H):ac (BB W) n (.ref 1701) [s,x] H Q:=by
 refine ab dC (by tm_at "o") ?_
 tm_at "in"
 refine isK hx (by rw [hd]; rfl) ?_
 tm_at "ww"
 exact h
theorem wV {s x:AV} {D:Nat} (hn:1≤n) (hx:ca (BB W) H x D) (hd:dsL.contains D = true) (h:Q (.bool (D == 429)) H):ac (BB W) n (.ref 1848) [s,x] H Q:=by
 refine ab d9 (by tm_at "o") ?_
 tm_at "in"
 refine isK hx (by rw [hd]; rfl) ?_
 tm_at "ww"
 exact h
theorem zx {s x:AV} (hn:1≤n) (hx:x = .val (.ref 201)) (h:Q (.bool true) H):ac (BB W) n (.ref 1603) [s,x] H Q:=by
 subst hx
 refine ab eY (by tm_at "o") ?_
 tm_at "in"
 refine fH ?_
 tm_at "ww"
 exact h
theorem rW {s a:AV} (hn:1≤n) (ha:aZ a = true) (h:Q a H):ac (BB W) n (.ref 1687) [s,.obj 324 ["code"] [a]] H Q:=by
 refine ab dq (by tm_at "o") ?_
 tm_at "in"
 exact h
theorem mR {s:AV} {k:Int} (hn:1≤n) (h:Q (.int k) H):ac (BB W) n (.ref 1855) [s,.obj 429 ["number"] [.int k]] H Q:=by
 refine ab cI (by tm_at "o") ?_
 tm_at "in"
 exact h
theorem qC {s x:AV} {xs:List AV} (hn:3≤n) (hx:LS H x xs) (hz:xs.length≤100000) (h:Q (.obj 345 ["codes","mark"] [.lst xs,.none]) H):ac (BB W) n (.ref 1694) [s,x] H Q:=by
 refine ab eR (by tm_at "o") ?_
 tm_at "in"
 refine gR hx hz ?_
 tm_at "ww"
 refine qE (by tm_at "o") ?_
 tm_at "ww"
 exact h
theorem z5 {s x:AV} {xs:List AV} (hn:3≤n) (hx:LS H x xs) (hz:xs.length≤100000) (h:Q (.obj 366 ["things","mark"] [.lst xs,.none]) H):ac (BB W) n (.ref 1729) [s,x] H Q:=by
 refine ab eN (by tm_at "o") ?_
 tm_at "in"
 refine gR hx hz ?_
 tm_at "ww"
 refine kA (by tm_at "o") ?_
 tm_at "ww"
 exact h
theorem cD {a b c d:AV} (hn:1≤n) (h:Q .none H):ac (BB W) n (.ref 158) [a,b,c,d,.bool true] H Q:=by
 refine ab Fh (by tm_at "o") ?_
 tm_at "in"
 exact h
theorem fD {t a b c d:AV} (hn:2≤n) (h:Q (.obj 345 ["codes","mark"] [c,d]) H):ac (BB W) n (.ref 165) [.obj 1886 ["table"] [t],a,b,.obj 345 ["codes","mark"] [c,d]] H Q:=by
 refine ab hW (by tm_at "o") ?_
 tm_at "in"
 refine rP (by tm_at "o") .obj rfl ?_
 tm_at "ww"
 refine cD (by tm_at "o") ?_
 tm_at "ww"
 exact h
theorem gO {t a b:AV} {k:Int} (hn:2≤n) (h:Q (.int k) H):ac (BB W) n (.ref 172) [.obj 1886 ["table"] [t],a,b,.obj 324 ["code"] [.int k]] H Q:=by
 refine ab jP (by tm_at "o") ?_
 tm_at "in"
 refine wT (by tm_at "o") .obj rfl ?_
 tm_at "ww"
 refine cD (by tm_at "o") ?_
 tm_at "ww"
 refine rW (by tm_at "o") rfl ?_
 tm_at "ww"
 exact h
end
section
set_option bootstrap.genMatcherCode false
variable {n:Nat} {H:HS} {Q:AV→HS→Prop}
noncomputable def bT (c:Nat):Option (List Nat):=if c = 32 then some (ae "space") else if c = 10 then some (ae "newline") else none
theorem ji {c:Nat} (hn:1≤n) (h:Q (match bT c with | some s=>.str s | none=>.none) H):ac (BB W) n (.ref 970) [.str [c]] H Q:=by
 refine ab lP (by tm_at "o") ?_
 tm_at "in"
 refine nh ?_
 tm_at "ww"
 have e1:Au.cps.toList = [32]:=rfl
 have e2:Eg.cps.toList = [10]:=rfl
 have e3:Dr.cps.toList = ae "space":=by kernel_rfl
 have e4:BU.cps.toList = ae "newline":=by kernel_rfl
 rw [e1,e2,e3,e4]
 by_cases c1:c = 32
 ·subst c1
  tm_at "ww"
  exact h
 refine al (by simpa using fun q=>c1 q.symm) ?_
 tm_at "ww"
 by_cases c2:c = 10
 ·subst c2
  tm_at "ww"
  exact h
 refine al (by simpa using fun q=>c2 q.symm) ?_
 tm_at "ww"
 unfold bT at h
 rw [if_neg c1,if_neg c2] at h
 exact h
noncomputable def jq (c:Nat):List Nat:=ae "#\\"++(bT c).getD [c]
theorem mr {c:Nat} {s:List Nat} (h:bT c = some s):s.length≤7:=by
 unfold bT at h
 split at h
 ·cases h; decide +kernel
 ·split at h
  ·cases h; decide +kernel
  ·cases h
theorem vL {c:Nat}:(jq c).length≤9:=by
 unfold jq
 rw [List.length_append]
 have:(ae "#\\").length = 2:=by decide +kernel
 cases e:bT c with
 | none=>simp [this]
 | some s=>have:=mr e; simp; lia
theorem iV {c:Nat} (hn:2≤n) (hc:c≤1114111) (h:Q (.str (jq c)) H):ac (BB W) n (.ref 1182) [.int c] H Q:=by
 refine ab lJ (by tm_at "o") ?_
 tm_at "in"
 refine ji (by tm_at "o") ?_
 have hl:=vL (c:=c)
 unfold jq at h hl
 rw [List.length_append] at hl
 cases e:bT c with
 | none =>
  simp only [e,Option.getD_some,Option.getD_none] at h hl
  simp only [Int.toNat_natCast,e]
  tm_at "ww"
  exact h
 | some s =>
  simp only [e,Option.getD_some,Option.getD_none] at h hl
  simp only [Int.toNat_natCast,e]
  tm_at "ww"
  exact h
theorem jt {cs:List Nat} {m:AV} (hn:2≤n) (hz:cs.length≤100000) (hv:∀ c ∈ cs,c≤1114111) (h:Q (.str cs) H):ac (BB W) n (.ref 464) [.obj 345 ["codes","mark"] [.lst (ai cs),m]] H Q:=by
 refine (aJ.pure fun zz zz=>?_).call
 refine am nO (by tm_at "o") ?_
 tm_at "in"
 ·refine bG (fr:=[]) (sc':=jg) (.of (by kernel_rfl) (by simp)) (by tm_at "mem") ?_
  refine gJ ?_
  tm_at "ww"
  refine ⟨_,.lst,_,fun a=>match a with | .int c=>.str [c.toNat] | _=>.none,by simpa using hz,fun i J=>bV .lst i,fun a J ha=>?_,?_⟩
  ·obtain ⟨c,hc,rfl⟩:=List.mem_map.mp ha
   have:=hv c hc
   tm_at "go"
   exact ⟨rfl,rfl⟩
  ·tm_at "ww"
   refine qN (ys:=cs.map fun c=>[c]) (.cell ?_) ?_ ?_
   ·rw [aB]; simp
   ·rw [b0]; exact hz
   ·tm_at "ww"
    rw [b0]
    exact ⟨⟨_,rfl⟩,trivial,h⟩
theorem mP {cs:List Nat} (hn:3≤n) (hz:cs.length≤100000) (h:Q (.obj 345 ["codes","mark"] [.lst (ai cs),.none]) H):ac (BB W) n (.ref 459) [.str cs] H Q:=by
 refine ab tF (by tm_at "o") ?_
 tm_at "in"
 refine iO fun hw=>?_
 refine bG (fr:=[]) (sc':=k9) (.of (by kernel_rfl) (by simp)) (by tm_at "mem") ?_
 refine h9 ?_
 tm_at "ww"
 refine ⟨_,rfl,cs.map fun c=>AV.str [c],fun a=>match a with | .str [c]=>.int c | _=>.none,by simpa using hz,fun i J=>cU i _,fun a J ha=>?_,?_⟩
 ·obtain ⟨c,hc,rfl⟩:=List.mem_map.mp ha
  tm_at "go"
  exact ⟨rfl,rfl⟩
 ·rw [List.map_map]
  refine ⟨_,ai cs,rfl,rfl,Nat.le_refl _,hw,cH,?_⟩
  tm_at "ww"
  refine qE (by tm_at "o") ?_
  tm_at "ww"
  exact h
theorem Be {k:Nat} (hk:k≤100000):Builtin.Range.small 0 k 1 = true∧0≤Builtin.Range.rangeSize 0 k 1∧(Builtin.Range.rangeSize 0 k 1).toNat = k:=by
 have e:Builtin.Range.rangeSize 0 k 1 = k:=by
  unfold Builtin.Range.rangeSize
  rw [if_pos (by decide)]
  split <;> lia
 refine ⟨?_,by lia,by lia⟩
 unfold Builtin.Range.small
 rw [e]
 simp [Builtin.Range.rangeFitsLong]
 lia
theorem Ux {k:Nat} (hk:k≤100000):Builtin.Range.small ((k:Int) - 1) (-1) (-1) = true∧0≤Builtin.Range.rangeSize ((k:Int) - 1) (-1) (-1)∧(Builtin.Range.rangeSize ((k:Int) - 1) (-1) (-1)).toNat = k:=by
 have e:Builtin.Range.rangeSize ((k:Int) - 1) (-1) (-1) = k:=by
  unfold Builtin.Range.rangeSize
  rw [if_neg (by decide)]
  split
  ·rw [show (-(-1):Int) = 1 from rfl,Int.ediv_one]; lia
  ·lia
 refine ⟨?_,by lia,by lia⟩
 unfold Builtin.Range.small
 rw [e]
 simp [Builtin.Range.rangeFitsLong]
 lia
set_option tactic.hygienic true in
theorem xn {k:Nat} (i:Nat) (H:HS):aG 0 1 k i H = some (((List.range k).map fun i:Nat=>AV.int i)[i]?):=by
 unfold aG
 rw [List.getElem?_map]
 split
 ·rename_i h
  rw [List.getElem?_range h]
  simp
 ·rename_i h
  rw [List.getElem?_eq_none (by simpa using h)]
  rfl
theorem km {s m:AV} {xs:List AV} (hn:1≤n) (hz:xs.length≤100000) (h:Q (.int xs.length) H):ac (BB W) n (.ref 1708) [s,.obj 345 ["codes","mark"] [.lst xs,m]] H Q:=by
 refine ab cf (by tm_at "o") ?_
 tm_at "in"
 exact h
theorem nM {s m a:AV} {xs:List AV} {i:Int} (hn:1≤n) (h0:0≤i∧i < 100000) (hi:xs[i.toNat]? = some a) (h:Q a H):ac (BB W) n (.ref 1715) [s,.obj 345 ["codes","mark"] [.lst xs,m],.int i] H Q:=by
 refine ab cN (by tm_at "o") ?_
 tm_at "in"
 refine bn .lst h0.1 (by tm_at "o") hi ?_
 tm_at "ww"
 exact h
theorem ja {t m:AV} {cs:List Nat} (hn:3≤n) (hz:cs.length≤100000) (h:Q (.lst (ai cs)) H):ac (BB W) n (.ref 36) [.obj 1886 ["table"] [t],.obj 345 ["codes","mark"] [.lst (ai cs),m]] H Q:=by
 refine ab lV (by tm_at "o") ?_
 tm_at "ww"
 refine iO fun hw=>?_
 refine bG (fr:=[lv' "store" (.obj 1886 ["table"] [t]),lv' "string" (.obj 345 ["codes","mark"] [.lst (ai cs),m])]) (sc':=hE) (.of (by kernel_rfl) (by simp)) (by tm_at "mem") ?_
 refine cJ ?_
 tm_at "ww"
 refine km (by tm_at "o") (by simpa using hz) ?_
 tm_at "ww"
 have hk:(ai cs).length = cs.length:=List.length_map ..
 obtain ⟨r1,r2,r3⟩:=Be (k:=(ai cs).length) (by tm_at "o")
 refine ⟨0,_,1,rfl,r1,r2,(List.range cs.length).map fun i:Nat=>AV.int i,fun a=>match a with | .int i=>.int (cs.getD i.toNat 0:Nat) | _=>.none,by simpa using hz,fun i J=>?_,fun a J ha=>?_,?_⟩
 ·rw [r3,hk]; exact xn i _
 ·obtain ⟨i,hi,rfl⟩:=List.mem_map.mp ha
  have hi:=List.mem_range.mp hi
  tm_at "go"
  refine nM (by tm_at "o") (by tm_at "o") (by rw [Int.toNat_natCast]; simp only [ai,List.getElem?_map]; rw [List.getElem?_eq_getElem hi]; rfl) ?_
  refine L.of ?_
  simp [hi]
 ·have e:((List.range cs.length).map fun i:Nat=>AV.int i).map (fun a=>match a with | .int i=>.int (cs.getD i.toNat 0:Nat) | _=>.none) = ai cs:=by
   refine List.ext_getElem (by simp) fun i h1 h2=>?_
   have:i < cs.length:=by simpa using h2
   simp [this]
  refine ⟨H,ai cs,rfl,by rw [← e],Nat.le_refl _,hw,cH,?_⟩
  tm_at "ww"
  exact h
end
section
set_option bootstrap.genMatcherCode false
variable {n:Nat} {H:HS} {Q:AV→HS→Prop}
noncomputable def esc:List Nat→List Nat
 | []=>[]
 | c :: cs=>(if c = 34 ∨ c = 92 then [92,c] else [c])++esc cs
theorem mq:∀ a b,esc (a++b) = esc a++esc b
 | [],_=>rfl
 | c :: a,b=>by rw [List.cons_append,esc,esc,mq a b,List.append_assoc]
theorem rk:∀ a,(esc a).length≤2 * a.length
 | []=>Nat.zero_le _
 | c :: a=>by
  have:=rk a
  rw [esc,List.length_append,List.length_cons]
  split <;> simp <;> lia
noncomputable def cb (cs:List Nat):List Nat:=34 :: esc cs++[34]
inductive WsI (cs:List Nat) (m:AV) (H:HS) (i:Nat) (loc:Loc) (H2:HS):Prop
 | mk (ys:List (List Nat)) (o:Option AV) (e2:loc = [lq "text" (some (.obj 345 ["codes","mark"] [.lst (ai cs),m])),lq "found" (some (.cell H.length)),lq "letter" o]) (e3:H2 = H++[.list (ys.map .str)]) (e4:i≤cs.length∧ys.length≤2 * i + 1) (e5:ys.flatten = 34 :: esc (cs.take i))
theorem f9 {cs:List Nat} {m:AV} (hn:3≤n) (hz:cs.length≤1000) (hv:∀ c ∈ cs,c≤1114111) (h:Q (.str (cb cs)) H):ac (BB W) n (.ref 1189) [.obj 345 ["codes","mark"] [.lst (ai cs),m]] H Q:=by
 have hp:=ar (aB (H:=H) (c:=.list []))
 refine (aJ.pure fun zz zz=>?_).call
 refine am ip (by tm_at "o") ?_
 tm_at "in"
 refine aR ?_
 tm_at "ww"
 refine cB (h9 ?_)
 tm_at "ww"
 refine jt (by tm_at "o") (by tm_at "o") hv ?_
 refine ⟨_,rfl,WsI cs m H,cs.length,⟨[ae "\""],none,rfl,rfl,by simp,rfl⟩,?_⟩
 rintro i loc H2 ⟨ys,o,rfl,rfl,⟨hi',hy⟩,he⟩
 rw [cU]
 cases hx:(cs.map fun c=>AV.str [c])[i]? with
 | none =>
  have hi:cs.length≤i:=by simpa using List.getElem?_eq_none_iff.mp hx
  tm_at "ww"
  rw [List.take_of_length_le hi] at he
  simp only [aq]
  have hf:(ys++[ae "\""]).flatten = cb cs:=by rw [List.flatten_append,he]; rfl
  refine qN (ys:=ys++[ae "\""]) (.cell ?_) ?_ ?_
  ·rw [aB]; simp
  ·rw [hf]; unfold cb; have:=rk cs; simp; lia
  ·tm_at "ww"
   rw [hf]
   exact ⟨⟨_,rfl⟩,trivial,h⟩
 | some a =>
  rw [List.getElem?_map] at hx
  obtain ⟨c,hc,rfl⟩:=Option.map_eq_some_iff.mp hx
  have hlt:i < cs.length:=(List.getElem?_eq_some_iff.mp hc).1
  refine ⟨hlt,_,.name (by tm_at "mem") (.tail (.tail .head)),?_⟩
  tm_at "ww"
  have et:esc (cs.take (i + 1)) = esc (cs.take i)++(if c = 34 ∨ c = 92 then [92,c] else [c]):=by
   rw [List.take_add_one,hc,mq]
   simp [esc]
  by_cases c1:c = 34 ∨ c = 92
  ·have es:ae "\\" = [92]:=by decide +kernel
   rw [if_pos c1] at et
   rcases c1 with rfl | rfl
   ·tm_at "ww"
    refine ⟨ys++[ae "\\"]++[[34]],_,rfl,by simp only [aq]; simp,⟨hlt,by simp; lia⟩,?_⟩
    rw [et,List.flatten_append,List.flatten_append,he]
    simp [es]
   ·tm_at "ww"
    refine ⟨ys++[ae "\\"]++[[92]],_,rfl,by simp only [aq]; simp,⟨hlt,by simp; lia⟩,?_⟩
    rw [et,List.flatten_append,List.flatten_append,he]
    simp [es]
  ·have q1:([c] == ae "\"") = false:=beq_eq_false_iff_ne.mpr fun q=>c1 (.inl (by cases q; rfl))
   have q2:([c] == ae "\\") = false:=beq_eq_false_iff_ne.mpr fun q=>c1 (.inr (by cases q; rfl))
   refine al q1 ?_
   tm_at "ww"
   refine al q2 ?_
   tm_at "ww"
   refine ⟨ys++[[c]],_,rfl,?_,⟨hlt,by simp; lia⟩,?_⟩
   ·simp only [aq]; simp
   ·rw [et,if_neg c1,List.flatten_append,he]
    simp
end
section
set_option bootstrap.genMatcherCode false
variable {n:Nat} {H:HS} {Q:AV→HS→Prop}
noncomputable abbrev txA (cs:List Nat) (m:AV):AV:=.obj 345 ["codes","mark"] [.lst (ai cs),m]
noncomputable abbrev chA (c:Nat):AV:=.obj 324 ["code"] [.int (c:Int)]
noncomputable abbrev prA (a b c:AV):AV:=.obj 303 ["car","cdr","mark"] [a,b,c]
noncomputable abbrev vcA (a b:AV):AV:=.obj 366 ["things","mark"] [a,b]
inductive AtomT (H:HS):AV→List Nat→Prop
 | int {k:Int}:k.natAbs < 10 ^ 30→AtomT H (.int k) (aH k)
 | tru:AtomT H (.bool true) (ae "#t")
 | fls:AtomT H (.bool false) (ae "#f")
 | empty:AtomT H (.val (.ref 195)) (ae "()")
 | sym {k:Nat} {a:AV} {s:List Nat}:H[k]? = some (.inst 219 [lv' "number" a,lv' "text" (.str s)])→s.length≤100→AtomT H (.cell k) s
 | text {cs:List Nat} {m:AV}:cs.length≤1000→(∀ c ∈ cs,c≤1114111)→AtomT H (txA cs m) (cb cs)
 | char {c:Nat}:c≤1114111→AtomT H (chA c) (jq c)
theorem kU {k:Int} (hn:1≤n) (h:Q .none H):ac (BB W) n (.ref 1196) [.int k] H Q:=by
 refine ab pU (by tm_at "o") ?_
 tm_at "in"
 exact h
noncomputable def prI (L:Nat) (m:Int):Cell:=.inst 1255 [lv' "is_written" (.bool true),lv' "precision" (.int 8),lv' "radix" (.int 10),lv' "limit" (.int 100000),lv' "table" .none,lv' "pieces" (.cell (L + 1)),lv' "length" (.int m),lv' "waiting" (.cell (L + 2))]
theorem nn:∃ o,(BB W).K.lookup 195 = some o∧o.cls = .ref 189:=⟨FL,by kernel_rfl,rfl⟩
theorem i9 {C:Nat} {ks:List Str} {as:List AV} (hc:C ≠ 189) (h:Q (.bool false) H):CMP (BB W) n .Is (.obj C ks as) (.val (.ref 195)) H Q:=by
 obtain ⟨o,e1,e2⟩:=nn (W:=W)
 exact uH e1 (by rw [e2]; intro q; cases q; exact hc rfl) h
theorem uM {i:Nat} {c:Cell} (hi:H[i]? = some c) (h:Q (.bool false) H):CMP (BB W) n .Is (.cell i) (.val (.ref 195)) H Q:=by
 obtain ⟨o,e1,_⟩:=nn (W:=W)
 exact D9 hi e1 h
theorem vH {b:Bool} (hn:1≤n) (h:Q (.bool true) H):ac (BB W) n (.ref 479) [.bool b] H Q:=by
 refine ab dB (by tm_at "o") ?_
 tm_at "in"
 refine gF ?_
 tm_at "ww"
 exact h
theorem C4 {k:Int} (hn:1≤n) (h:Q (.bool false) H):ac (BB W) n (.ref 479) [.int k] H Q:=by
 refine ab dB (by tm_at "o") ?_
 tm_at "in"
 refine i6 ?_
 tm_at "ww"
 exact h
theorem iY {x:AV} {D:Nat} (hn:1≤n) (hx:ca (BB W) H x D) (hd:dsL.contains D = true) (h:Q (.bool false) H):ac (BB W) n (.ref 479) [x] H Q:=by
 refine ab dB (by tm_at "o") ?_
 tm_at "in"
 refine Yc hx hd ?_
 tm_at "ww"
 exact h
theorem zJ {p L:Nat} {m:Int} {v:AV} {s:List Nat} (hn:7≤n) (hp:H[p]? = some (prI L m)) (ha:AtomT H v s) (h:Q (.str s) H):ac (BB W) n (.ref 1252) [.cell p,v] H Q:=by
 unfold prI at hp
 refine ab k6 (by tm_at "o") ?_
 tm_at "in"
 cases ha with
 | int hk =>
  refine C4 (by tm_at "o") ?_
  tm_at "ww"
  refine gZ ?_
  tm_at "ww"
  refine kU (by tm_at "o") ?_
  tm_at "ww"
  refine kj (by tm_at "o") hk ?_
  tm_at "ww"
  exact h
 | tru =>
  refine vH (by tm_at "o") ?_
  tm_at "ww"
  exact h
 | fls =>
  refine vH (by tm_at "o") ?_
  tm_at "ww"
  exact h
 | empty =>
  refine iY (by tm_at "o") vk rfl ?_
  tm_at "ww"
  refine fH ?_
  tm_at "ww"
  exact h
 | sym hi hl =>
  refine iY (by tm_at "o") (.cell hi) rfl ?_
  tm_at "ww"
  refine uM hi ?_
  tm_at "ww"
  exact h
 | text hz hv =>
  refine iY (by tm_at "o") .obj rfl ?_
  tm_at "ww"
  refine i9 (by decide) ?_
  tm_at "ww"
  refine f9 (by tm_at "o") hz hv ?_
  tm_at "ww"
  exact h
 | char hc =>
  refine iY (by tm_at "o") .obj rfl ?_
  tm_at "ww"
  refine i9 (by decide) ?_
  tm_at "ww"
  refine iV (by tm_at "o") hc ?_
  tm_at "ww"
  exact h
inductive WK | item (a:AV) | seq (xs:List AV)
inductive Wr (H:HS):WK→List Nat→Nat→Prop
 | piece {s:List Nat}:s.length≤1000→Wr H (.item (.tup [.int 0,.str s])) s 1
 | atom {v:AV} {s:List Nat}:AtomT H v s→Wr H (.item (.tup [.int 1,v])) s 1
 | pair {a b m:AV} {s1 s2:List Nat} {k1 k2:Nat}:Wr H (.item (.tup [.int 1,a])) s1 k1→Wr H (.item (.tup [.int 2,b])) s2 k2→Wr H (.item (.tup [.int 1,prA a b m])) (40 :: (s1++s2)) (k1 + k2 + 1)
 | vec {xs:List AV} {m:AV} {s:List Nat} {k:Nat}:xs.length≤1000→Wr H (.seq xs) s k→Wr H (.item (.tup [.int 1,vcA (.lst xs) m])) (35 :: 40 :: (s++[41])) (k + 2)
 | nil:Wr H (.item (.tup [.int 2,.val (.ref 195)])) [41] 1
 | tpair {a b m:AV} {s1 s2:List Nat} {k1 k2:Nat}:Wr H (.item (.tup [.int 1,a])) s1 k1→Wr H (.item (.tup [.int 2,b])) s2 k2→Wr H (.item (.tup [.int 2,prA a b m])) (32 :: (s1++s2)) (k1 + k2 + 1)
 | tatom {v:AV} {s:List Nat}:AtomT H v s→v ≠ .val (.ref 195)→Wr H (.item (.tup [.int 2,v])) ([32,46,32]++s++[41]) 3
 | seq0:Wr H (.seq []) [] 0
 | seq1 {x:AV} {s:List Nat} {k:Nat}:Wr H (.item (.tup [.int 1,x])) s k→Wr H (.seq [x]) s k
 | seq2 {x y:AV} {ys:List AV} {s s2:List Nat} {k k2:Nat}:Wr H (.item (.tup [.int 1,x])) s k→Wr H (.seq (y :: ys)) s2 k2→Wr H (.seq (x :: y :: ys)) (s++32 :: s2) (k + k2 + 1)
inductive Wrs (H:HS):List AV→List Nat→Nat→Prop
 | nil:Wrs H [] [] 0
 | snoc {ws:List AV} {a:AV} {s s':List Nat} {k k':Nat}:Wrs H ws s k→Wr H (.item a) s' k'→Wrs H (ws++[a]) (s'++s) (k' + k)
theorem Wr.pos {H:HS} {a:AV} {s:List Nat} {k:Nat} (h:Wr H (.item a) s k):1≤k:=by
 generalize hw:WK.item a = w at h
 cases h <;> first | lia | cases hw
theorem Wrs.len {H:HS} {ws:List AV} {s:List Nat} {k:Nat} (h:Wrs H ws s k):ws.length≤k:=by
 induction h with
 | nil=>exact Nat.le_refl _
 | snoc _ h ih=>have:=h.pos; simp; lia
noncomputable def bJ:List AV→List AV
 | []=>[]
 | [x]=>[.tup [.int 1,x]]
 | x :: y :: ys=>bJ (y :: ys)++[.tup [.int 0,.str [32]],.tup [.int 1,x]]
theorem Wrs.push {H:HS} {ws:List AV} {s:List Nat} {k:Nat} (h:Wrs H ws s k):∀ {xs:List AV} {s':List Nat} {k':Nat},Wr H (.seq xs) s' k'→Wrs H (ws++bJ xs) (s'++s) (k' + k)
 | [],_,_,q=>by cases q; simpa [bJ] using h
 | [x],_,_,q=>by cases q with | seq1 q=>exact h.snoc q
 | x :: y :: ys,_,_,q=>by
  cases q with
  | seq2 q1 q2 =>
   have:=((Wrs.push h q2).snoc (a:=.tup [.int 0,.str [32]]) (.piece (by decide))).snoc q1
   have e:ws++bJ (y :: ys)++[.tup [.int 0,.str [32]]]++[.tup [.int 1,x]] = ws++bJ (x :: y :: ys):=by simp [bJ]
   rw [e] at this
   simpa [Nat.add_assoc,Nat.add_comm,Nat.add_left_comm] using this
noncomputable def PH (H:HS) (ps:List (List Nat)) (m:Int) (ws:List AV):HS:=H++[prI H.length m,.list (ps.map .str),.list ws]
theorem PH.p {ps:List (List Nat)} {m:Int} {ws:List AV}:(PH H ps m ws)[H.length]? = some (prI H.length m):=by unfold PH; simp
theorem PH.a {ps:List (List Nat)} {m:Int} {ws:List AV}:(PH H ps m ws)[H.length + 1]? = some (.list (ps.map .str)):=by unfold PH; simp
theorem PH.b {ps:List (List Nat)} {m:Int} {ws:List AV}:(PH H ps m ws)[H.length + 2]? = some (.list ws):=by unfold PH; simp
theorem PH.old {ps:List (List Nat)} {m:Int} {ws:List AV} {i:Nat} {c:Cell} (h:H[i]? = some c):(PH H ps m ws)[i]? = some c:=aw h
theorem PH.setP {ps:List (List Nat)} {m m':Int} {ws:List AV}:(PH H ps m ws).set H.length (prI H.length m') = PH H ps m' ws:=by
 unfold PH; rw [List.set_append_right _ _ (Nat.le_refl _),Nat.sub_self]; rfl
theorem PH.setA {ps:List (List Nat)} {m:Int} {ws:List AV} {s:List Nat}:(PH H ps m ws).set (H.length + 1) (.list (ps.map .str++[.str s])) = PH H (ps++[s]) m ws:=by
 unfold PH; rw [List.set_append_right _ _ (by tm_at "o"),Nat.add_sub_cancel_left]; simp
theorem PH.setB {ps:List (List Nat)} {m:Int} {ws ws':List AV}:(PH H ps m ws).set (H.length + 2) (.list ws') = PH H ps m ws':=by
 unfold PH; rw [List.set_append_right _ _ (by tm_at "o"),Nat.add_sub_cancel_left]; rfl
theorem AtomT.mono {H':HS} {v:AV} {s:List Nat} (k:∀ (i:Nat) (c:Cell),H[i]? = some c→H'[i]? = some c) (h:AtomT H v s):AtomT H' v s:=by
 cases h with
 | int h=>exact .int h
 | tru=>exact .tru
 | fls=>exact .fls
 | empty=>exact .empty
 | sym h hl=>exact .sym (k _ _ h) hl
 | text h1 h2=>exact .text h1 h2
 | char h=>exact .char h
theorem oG {ps:List (List Nat)} {m:Int} {ws:List AV} {s:List Nat} (hn:2≤n) (hz:ps.length≤100000) (hs:s.length≤100000) (hm:m + s.length≤100000) (h:Q .none (PH H (ps++[s]) (m + s.length) ws)):ac (BB W) n (.ref 1224) [.cell H.length,.str s] (PH H ps m ws) Q:=by
 have hp:=PH.p (H:=H) (ps:=ps) (m:=m) (ws:=ws)
 have ha:=PH.a (H:=H) (ps:=ps) (m:=m) (ws:=ws)
 have hp2:=PH.p (H:=H) (ps:=ps++[s]) (m:=m) (ws:=ws)
 have hp3:=PH.p (H:=H) (ps:=ps++[s]) (m:=m + s.length) (ws:=ws)
 unfold prI at hp hp2 hp3
 refine ab m9 (by tm_at "o") ?_
 tm_at "in"
 rw [PH.setA]
 tm_at "ww"
 refine al (decide_eq_false (by tm_at "o")) ?_
 tm_at "ww"
 have e:(PH H (ps++[s]) m ws).set H.length (prI H.length (m + s.length)) = PH H (ps++[s]) (m + s.length) ws:=PH.setP
 unfold prI at e
 rw [e]
 exact h
theorem uS {ps:List (List Nat)} {m:Int} {ws:List AV} {s:List Nat} (k:Int) (hk:(s.length:Int) = k) (hn:2≤n) (hz:ps.length≤100000) (hs:k≤100000) (hm:m + k≤100000) (h:Q .none (PH H (ps++[s]) (m + k) ws)):ac (BB W) n (.ref 1224) [.cell H.length,.str s] (PH H ps m ws) Q:=by
 subst hk
 exact oG hn hz (by tm_at "o") hm h
theorem AtomT.kind {H:HS} {v:AV} {s:List Nat} (h:AtomT H v s):(∃ k,v = .int k) ∨ (∃ b,v = .bool b) ∨ ∃ D,ca (BB W) H v D∧dsL.contains D = true∧(D == 303) = false∧(D == 366) = false:=by
 cases h with
 | int h=>exact .inl ⟨_,rfl⟩
 | tru=>exact .inr (.inl ⟨_,rfl⟩)
 | fls=>exact .inr (.inl ⟨_,rfl⟩)
 | empty=>exact .inr (.inr ⟨189,vk,rfl,rfl,rfl⟩)
 | sym h hl=>exact .inr (.inr ⟨219,.cell h,rfl,rfl,rfl⟩)
 | text h1 h2=>exact .inr (.inr ⟨345,.obj,rfl,rfl,rfl⟩)
 | char h=>exact .inr (.inr ⟨324,.obj,rfl,rfl,rfl⟩)
theorem oF {v:AV} {s:List Nat} {C:Nat} (ha:AtomT H v s) (hC:C = 303 ∨ C = 366) (h:Q (.bool false) H):ac (BB W) n (.builtin "isinstance") [v,.val (.ref C)] H Q:=by
 have hc:csL.contains C = true:=by rcases hC with rfl | rfl <;> rfl
 rcases ha.kind (W:=W) with ⟨k,rfl⟩ | ⟨b,rfl⟩ | ⟨D,o,d,n1,n2⟩
 ·exact isI hc h
 ·exact isB hc h
 ·refine isK o (by rw [d,hc]; rfl) ?_
  rcases hC with rfl | rfl
  ·rw [n1]; exact h
  ·rw [n2]; exact h
theorem pj {ps:List (List Nat)} {m:Int} {ws:List AV} {a b c:AV} (hn:4≤n) (hz:ps.length≤100000) (hw:ws.length + 2≤100000) (hm:m + 1≤100000) (h1:aZ a = true) (h2:aZ b = true) (h:Q .none (PH H (ps++[ae "("]) (m + 1) (ws++[.tup [.int 2,b]]++[.tup [.int 1,a]]))):ac (BB W) n (.ref 1238) [.cell H.length,prA a b c] (PH H ps m ws) Q:=by
 have hp:=PH.p (H:=H) (ps:=ps) (m:=m) (ws:=ws)
 have hp2:=PH.p (H:=H) (ps:=ps++[ae "("]) (m:=m + 1) (ws:=ws)
 have ha:=PH.b (H:=H) (ps:=ps++[ae "("]) (m:=m + 1) (ws:=ws)
 unfold prI at hp hp2
 refine ab kS (by tm_at "o") ?_
 tm_at "in"
 refine uS 1 rfl (by tm_at "o") hz (by decide) hm ?_
 tm_at "ww"
 rw [PH.setB,PH.setB]
 exact h
theorem uX {ps:List (List Nat)} {m:Int} {ws:List AV} (hn:4≤n) (hz:ps.length≤100000) (hm:m + 1≤100000) (h:Q .none (PH H (ps++[ae ")"]) (m + 1) ws)):ac (BB W) n (.ref 1245) [.cell H.length,.val (.ref 195)] (PH H ps m ws) Q:=by
 have hp:=PH.p (H:=H) (ps:=ps) (m:=m) (ws:=ws)
 unfold prI at hp
 refine ab cc (by tm_at "o") ?_
 tm_at "in"
 refine fH ?_
 tm_at "ww"
 refine uS 1 rfl (by tm_at "o") hz (by decide) hm ?_
 tm_at "ww"
 exact h
theorem tS {ps:List (List Nat)} {m:Int} {ws:List AV} {a b c:AV} (hn:4≤n) (hz:ps.length≤100000) (hw:ws.length + 2≤100000) (hm:m + 1≤100000) (h1:aZ a = true) (h2:aZ b = true) (h:Q .none (PH H (ps++[ae " "]) (m + 1) (ws++[.tup [.int 2,b]]++[.tup [.int 1,a]]))):ac (BB W) n (.ref 1245) [.cell H.length,prA a b c] (PH H ps m ws) Q:=by
 have hp:=PH.p (H:=H) (ps:=ps) (m:=m) (ws:=ws)
 have hp2:=PH.p (H:=H) (ps:=ps++[ae " "]) (m:=m + 1) (ws:=ws)
 have ha:=PH.b (H:=H) (ps:=ps++[ae " "]) (m:=m + 1) (ws:=ws)
 unfold prI at hp hp2
 refine ab cc (by tm_at "o") ?_
 tm_at "in"
 refine i9 (by decide) ?_
 tm_at "ww"
 refine uS 1 rfl (by tm_at "o") hz (by decide) hm ?_
 tm_at "ww"
 rw [PH.setB,PH.setB]
 exact h
theorem DK {v:AV} {s:List Nat} (ha:AtomT H v s) (hv:v ≠ .val (.ref 195)) (h:Q (.bool false) H):CMP (BB W) n .Is v (.val (.ref 195)) H Q:=by
 cases ha with
 | int _=>exact gZ h
 | tru=>exact fv h
 | fls=>exact fv h
 | empty=>exact (hv rfl).elim
 | sym hi _=>exact uM hi h
 | text _ _=>exact i9 (by decide) h
 | char _=>exact i9 (by decide) h
theorem q8 {ps:List (List Nat)} {m:Int} {ws:List AV} {v:AV} {s:List Nat} (hn:4≤n) (hz:ps.length≤100000) (hw:ws.length + 2≤100000) (hm:m + 3≤100000) (ha:AtomT H v s) (hv:v ≠ .val (.ref 195)) (h:Q .none (PH H (ps++[ae " . "]) (m + 3) (ws++[.tup [.int 0,.str (ae ")")]]++[.tup [.int 1,v]]))):ac (BB W) n (.ref 1245) [.cell H.length,v] (PH H ps m ws) Q:=by
 have hp:=PH.p (H:=H) (ps:=ps) (m:=m) (ws:=ws)
 have hp2:=PH.p (H:=H) (ps:=ps++[ae " . "]) (m:=m + 3) (ws:=ws)
 have ha':=PH.b (H:=H) (ps:=ps++[ae " . "]) (m:=m + 3) (ws:=ws)
 unfold prI at hp hp2
 refine ab cc (by tm_at "o") ?_
 tm_at "in"
 have haP:AtomT (PH H ps m ws) v s:=ha.mono fun i c h=>PH.old h
 refine DK haP hv ?_
 tm_at "ww"
 refine oF haP (.inl rfl) ?_
 tm_at "ww"
 refine uS 3 rfl (by tm_at "o") hz (by decide) hm ?_
 tm_at "ww"
 rw [PH.setB,PH.setB]
 exact h
end
section
set_option bootstrap.genMatcherCode false
variable {n:Nat} {H:HS} {Q:AV→HS→Prop}
theorem FH {ps:List (List Nat)} {m:Int} {ws:List AV} {a b c:AV} (hn:5≤n) (hz:ps.length≤100000) (hw:ws.length + 2≤100000) (hm:m + 1≤100000) (h1:aZ a = true) (h2:aZ b = true) (h:Q .none (PH H (ps++[ae "("]) (m + 1) (ws++[.tup [.int 2,b]]++[.tup [.int 1,a]]))):ac (BB W) n (.ref 1231) [.cell H.length,prA a b c] (PH H ps m ws) Q:=by
 have hp:=PH.p (H:=H) (ps:=ps) (m:=m) (ws:=ws)
 unfold prI at hp
 refine ab bO (by tm_at "o") ?_
 tm_at "in"
 refine pj (by tm_at "o") hz hw hm h1 h2 ?_
 tm_at "ww"
 exact h
theorem Fl {ps:List (List Nat)} {m:Int} {ws:List AV} {v:AV} {s:List Nat} (hn:9≤n) (hz:ps.length≤100000) (hs:s.length≤100000) (hm:m + s.length≤100000) (ha:AtomT H v s) (h:Q .none (PH H (ps++[s]) (m + s.length) ws)):ac (BB W) n (.ref 1231) [.cell H.length,v] (PH H ps m ws) Q:=by
 have hp:=PH.p (H:=H) (ps:=ps) (m:=m) (ws:=ws)
 have hp':=PH.p (H:=H) (ps:=ps) (m:=m) (ws:=ws)
 have haP:AtomT (PH H ps m ws) v s:=ha.mono fun i c h=>PH.old h
 unfold prI at hp
 refine ab bO (by tm_at "o") ?_
 tm_at "in"
 refine oF haP (.inl rfl) ?_
 tm_at "ww"
 refine oF haP (.inr rfl) ?_
 tm_at "ww"
 refine zJ (by tm_at "o") hp' haP ?_
 tm_at "ww"
 refine oG (by tm_at "o") hz hs hm ?_
 tm_at "ww"
 exact h
noncomputable def fE (xs:List AV) (i:Nat):List AV:=if i = 0 then [] else bJ (xs.drop (xs.length - i))++(if i < xs.length then [.tup [.int 0,.str [32]]] else [])
theorem zm (xs:List AV):fE xs xs.length = bJ xs:=by
 unfold fE
 cases xs with
 | nil=>rfl
 | cons x xs=>rw [if_neg (by simp),Nat.sub_self,List.drop_zero,if_neg (by tm_at "o"),List.append_nil]
theorem xx {xs:List AV} {i:Nat} {x:AV} (hi:i < xs.length) (hx:xs[xs.length - 1 - i]? = some x):fE xs (i + 1) = fE xs i++[.tup [.int 1,x]]++(if i + 1 < xs.length then [.tup [.int 0,.str [32]]] else []):=by
 have hlt:xs.length - (i + 1) < xs.length:=by lia
 have e:xs.drop (xs.length - (i + 1)) = x :: xs.drop (xs.length - i):=by
  rw [List.drop_eq_getElem_cons hlt,show xs.length - (i + 1) + 1 = xs.length - i by lia]
  rw [show xs.length - 1 - i = xs.length - (i + 1) by lia,List.getElem?_eq_getElem hlt] at hx
  cases hx
  rfl
 unfold fE
 rw [if_neg (by tm_at "o"),e]
 by_cases h0:i = 0
 ·subst h0
  rw [if_pos rfl,Nat.sub_zero,List.drop_length]
  rfl
 ·rw [if_neg h0,if_pos hi]
  cases hd:xs.drop (xs.length - i) with
  | nil =>
   have:(xs.drop (xs.length - i)).length = i:=by rw [List.length_drop]; lia
   rw [hd] at this
   simp at this
   lia
  | cons y ys =>
   rw [show bJ (x :: y :: ys) = bJ (y :: ys)++[.tup [.int 0,.str [32]],.tup [.int 1,x]] from rfl]
   simp
theorem oi:∀ xs:List AV,(bJ xs).length≤2 * xs.length
 | []=>Nat.zero_le _
 | [x]=>by simp [bJ]
 | x :: y :: ys=>by have:=oi (y :: ys); simp [bJ] at this ⊢; lia
theorem zb (xs:List AV) (i:Nat):(fE xs i).length≤2 * xs.length + 1:=by
 unfold fE
 split
 ·simp
 ·have:=oi (xs.drop (xs.length - i))
  rw [List.length_drop] at this
  rw [List.length_append]
  split <;> simp <;> lia
inductive PvI (xs:List AV) (c:AV) (ps:List (List Nat)) (m:Int) (ws:List AV) (H:HS) (i:Nat) (loc:Loc) (H2:HS):Prop
 | mk (o:Option AV) (e1:loc = [lq "self" (some (.cell H.length)),lq "thing" (some (vcA (.lst xs) c)),lq "place" o]) (e2:H2 = PH H (ps++[ae "#("]) (m + 2) (ws++[.tup [.int 0,.str (ae ")")]]++fE xs i)) (e3:i≤xs.length)
theorem Pm {ps:List (List Nat)} {m:Int} {ws:List AV} {xs:List AV} {c:AV} (hn:9≤n) (hz:ps.length≤100000) (hx:xs.length≤1000) (hw:ws.length≤90000) (hm:m + 2≤100000) (h:Q .none (PH H (ps++[ae "#("]) (m + 2) (ws++[.tup [.int 0,.str (ae ")")]]++bJ xs))):ac (BB W) n (.ref 1231) [.cell H.length,vcA (.lst xs) c] (PH H ps m ws) Q:=by
 have hp:=PH.p (H:=H) (ps:=ps) (m:=m) (ws:=ws)
 have hp2:=PH.p (H:=H) (ps:=ps++[ae "#("]) (m:=m + 2) (ws:=ws)
 have hb:=PH.b (H:=H) (ps:=ps++[ae "#("]) (m:=m + 2) (ws:=ws)
 unfold prI at hp hp2
 refine ab bO (by tm_at "o") ?_
 tm_at "in"
 refine uS 2 rfl (by tm_at "o") hz (by decide) hm ?_
 tm_at "ww"
 rw [PH.setB]
 refine cB (cJ ?_)
 tm_at "ww"
 refine uv (by decide) (PyProof.noPylong_small (by decide)) ?_
 obtain ⟨r1,r2,r3⟩:=Ux (k:=xs.length) (by tm_at "o")
 refine ⟨_,_,_,rfl,r1,r2,PvI xs c ps m ws H,xs.length,⟨none,rfl,by simp [fE],Nat.zero_le _⟩,?_⟩
 rintro i loc _ ⟨o,rfl,rfl,hi⟩
 rw [r3]
 by_cases c1:i < xs.length
 ·rw [show aG ((xs.length:Int) - 1) (-1) xs.length i _ = some (some (.int ((xs.length:Int) - 1 + i * -1))) by unfold aG; rw [if_pos c1]]
  obtain ⟨x,hx'⟩:∃ x,xs[xs.length - 1 - i]? = some x:=⟨_,List.getElem?_eq_getElem (by tm_at "o")⟩
  refine ⟨c1,_,.name (by tm_at "mem") (.tail (.tail .head)),?_⟩
  have hp4:=PH.p (H:=H) (ps:=ps++[ae "#("]) (m:=m + 2) (ws:=ws++[.tup [.int 0,.str (ae ")")]]++fE xs i)
  have hb4:=PH.b (H:=H) (ps:=ps++[ae "#("]) (m:=m + 2) (ws:=ws++[.tup [.int 0,.str (ae ")")]]++fE xs i)
  have hl4:=zb xs i
  have e4:=xx c1 hx'
  unfold prI at hp4
  clear hp hp2 hb
  tm_at "ww"
  have eb:ae " " = [32]:=by decide +kernel
  refine bn .lst (by tm_at "o") (by tm_at "o") (by rw [show ((xs.length:Int) - 1 + i * -1).toNat = xs.length - 1 - i by lia]; exact hx') ?_
  tm_at "ww"
  by_cases c2:i + 1 < xs.length
  ·rw [if_pos c2] at e4
   refine b7 (decide_eq_true (by tm_at "o")) ?_
   tm_at "ww"
   rw [PH.setB,PH.setB,eb]
   exact ⟨_,rfl,by rw [e4]; simp,c1⟩
  ·rw [if_neg c2,List.append_nil] at e4
   refine al (decide_eq_false (by tm_at "o")) ?_
   tm_at "ww"
   rw [PH.setB]
   exact ⟨_,rfl,by rw [e4]; simp,c1⟩
 ·rw [show aG ((xs.length:Int) - 1) (-1) xs.length i _ = some none by unfold aG; rw [if_neg c1]]
  obtain rfl:i = xs.length:=by lia
  rw [zm]
  tm_at "ww"
  exact h
theorem rR (hn:2≤n) (h:Q (.cell H.length) (PH H [] 0 [])):ac (BB W) n (.ref 1255) [.bool true,.int 8,.int 10,.int 100000,.none] H Q:=by
 refine bX u9 (by tm_at "o") ?_
 refine am gh (by tm_at "o") ?_
 tm_at "in"
 simp only [aq,List.nil_append,List.cons_append]
 refine aR (aU ⟨by decide,?_⟩)
 simp only [List.length_append,List.length_cons,List.length_nil,List.append_assoc,List.nil_append,List.cons_append,Nat.zero_add]
 tm_at "ww"
 simp only [cz,List.nil_append,List.cons_append]
 refine aR (aU ⟨by decide,?_⟩)
 simp only [List.length_append,List.length_cons,List.length_nil,List.append_assoc,List.nil_append,List.cons_append,Nat.zero_add]
 tm_at "ww"
 simp only [cz,List.nil_append,List.cons_append]
 exact ⟨trivial,h⟩
theorem AtomT.hands {H:HS} {v:AV} {s:List Nat} (h:AtomT H v s):aZ v = true:=by cases h <;> rfl
theorem Wr.hands {H:HS} {w v:AV} {s:List Nat} {k:Nat} (h:Wr H (.item (.tup [w,v])) s k):aZ v = true:=by
 cases h with
 | piece _=>rfl
 | atom h=>exact h.hands
 | pair _ _=>rfl
 | vec _ _=>rfl
 | nil=>rfl
 | tpair _ _=>rfl
 | tatom h _=>exact h.hands
theorem PH.eq {ps:List (List Nat)} {m m':Int} {ws:List AV} (h:m = m'):PH H ps m ws = PH H ps m' ws:=by rw [h]
theorem Er {ps:List (List Nat)} {s:List Nat}:((ps++[s]).flatten.length:Int) = ps.flatten.length + s.length:=by simp
theorem vF {ps:List (List Nat)} {s:List Nat} {k:Int} (h:(s.length:Int) = k):(ps.flatten.length:Int) + k = (ps++[s]).flatten.length:=by rw [Er,h]
inductive TdI (H:HS) (v:AV) (s:List Nat) (k:Nat) (loc:Loc) (H2:HS):Prop
 | mk (ps:List (List Nat)) (ws:List AV) (s2:List Nat) (o1 o2:Option AV) (e:loc = [lq "self" (some (.cell H.length)),lq "datum" (some v),lq "word" o1,lq "thing" o2]) (e2:H2 = PH H ps ((ps.flatten.length:Nat):Int) ws) (w:Wrs H ws s2 k) (t:ps.flatten++s2 = s) (l:ps.length + k≤50000)
set_option tactic.hygienic true in
theorem Aa {v:AV} {s:List Nat} {k:Nat} (hn:10≤n) (hw:Wr H (.item (.tup [.int 1,v])) s k) (hk:k≤50000) (hs:s.length≤50000) (h:∀ ps m ws,Q (.str s) (PH H ps m ws)):ac (BB W) n (.ref 1217) [.cell H.length,v] (PH H [] 0 []) Q:=by
 have hp:=PH.p (H:=H) (ps:=[]) (m:=0) (ws:=[])
 have hb:=PH.b (H:=H) (ps:=[]) (m:=0) (ws:=[])
 unfold prI at hp
 refine ab lM (by tm_at "o") ?_
 tm_at "in"
 rw [PH.setB]
 refine bI (TdI H v s) k ⟨[],_,s,none,none,rfl,rfl,by simpa using Wrs.nil.snoc hw,rfl,by simpa using hk⟩ ?_
 clear hw hp hb
 rintro k _ _ ⟨ps,ws,s2,o1,o2,rfl,rfl,hw,he,hk'⟩
 have hp:=PH.p (H:=H) (ps:=ps) (m:=((ps.flatten.length:Nat):Int)) (ws:=ws)
 have ha:=PH.a (H:=H) (ps:=ps) (m:=((ps.flatten.length:Nat):Int)) (ws:=ws)
 have hb:=PH.b (H:=H) (ps:=ps) (m:=((ps.flatten.length:Nat):Int)) (ws:=ws)
 have hwl:=hw.len
 have hfl:ps.flatten.length + s2.length≤50000:=by rw [← he] at hs; simpa using hs
 unfold prI at hp
 tm_at "ww"
 cases hw with
 | nil =>
  tm_at "ww"
  rw [List.append_nil] at he
  refine qN (.cell ha) (by tm_at "o") ?_
  rw [he]
  tm_at "ww"
  exact h _ _ _
 | snoc hw ha' =>
  rename_i ws a s1 s3 k1 k3
  rw [show (!(ws++[a]).isEmpty) = true by simp]
  have hwl':=hw.len
  have hpos:=ha'.pos
  rw [List.length_append] at hwl hfl
  have hflI:(ps.flatten.length:Int) + s3.length≤50000:=by lia
  tm_at "ww"
  refine AE hb (by tm_at "o") ?_
  rw [PH.setB]
  have hp2:=PH.p (H:=H) (ps:=ps) (m:=((ps.flatten.length:Nat):Int)) (ws:=ws)
  unfold prI at hp2
  clear hp ha hb
  cases ha' with
  | piece hl =>
   tm_at "ww"
   refine oG (by tm_at "o") (by tm_at "o") (by tm_at "o") (by tm_at "o") ?_
   tm_at "ww"
   exact ⟨k1,by lia,ps++[s3],ws,s1,_,_,rfl,PH.eq Er.symm,hw,by rw [← he]; simp,by simp; lia⟩
  | atom hat =>
   tm_at "ww"
   refine Fl (by tm_at "o") (by tm_at "o") (by tm_at "o") (by tm_at "o") hat ?_
   tm_at "ww"
   exact ⟨k1,by lia,ps++[s3],ws,s1,_,_,rfl,PH.eq Er.symm,hw,by rw [← he]; simp,by simp; lia⟩
  | pair q1 q2 =>
   tm_at "ww"
   refine FH (by tm_at "o") (by tm_at "o") (by tm_at "o") (by simp at hfl; lia) q1.hands q2.hands ?_
   tm_at "ww"
   refine ⟨_,?_,ps++[ae "("],_,_,_,_,rfl,PH.eq (vF rfl),(hw.snoc q2).snoc q1,?_,?_⟩
   ·lia
   ·rw [← he]; simp; rfl
   ·simp; lia
  | vec hx q =>
   tm_at "ww"
   refine Pm (by tm_at "o") (by tm_at "o") hx (by tm_at "o") (by simp at hfl; lia) ?_
   tm_at "ww"
   refine ⟨_,?_,ps++[ae "#("],_,_,_,_,rfl,PH.eq (vF rfl),(hw.snoc (.piece (by decide))).push q,?_,?_⟩
   ·lia
   ·rw [← he]; simp; rfl
   ·simp; lia
  | nil =>
   tm_at "ww"
   refine uX (by tm_at "o") (by tm_at "o") (by simp at hfl; lia) ?_
   tm_at "ww"
   exact ⟨k1,by lia,ps++[ae ")"],ws,s1,_,_,rfl,PH.eq (vF rfl),hw,by rw [← he]; simp; rfl,by simp; lia⟩
  | tpair q1 q2 =>
   tm_at "ww"
   refine tS (by tm_at "o") (by tm_at "o") (by tm_at "o") (by simp at hfl; lia) q1.hands q2.hands ?_
   tm_at "ww"
   refine ⟨_,?_,ps++[ae " "],_,_,_,_,rfl,PH.eq (vF rfl),(hw.snoc q2).snoc q1,?_,?_⟩
   ·lia
   ·rw [← he]; simp; rfl
   ·simp; lia
  | tatom hat hv =>
   tm_at "ww"
   refine q8 (by tm_at "o") (by tm_at "o") (by tm_at "o") (by simp at hfl; lia) hat hv ?_
   tm_at "ww"
   refine ⟨_,?_,ps++[ae " . "],_,_,_,_,rfl,PH.eq (vF rfl),(hw.snoc (.piece (by decide))).snoc (.atom hat),?_,?_⟩
   ·lia
   ·rw [← he]; simp; rfl
   ·simp; lia
end
section
set_option bootstrap.genMatcherCode false
variable {n:Nat} {H:HS} {Q:AV→HS→Prop}
theorem dU {P:Params} {F:FF} {vs:List Value} {a:AV} {as:List AV} (h:af P F vs (a :: as)):∃ v r,vs = v :: r∧AVR P F v a∧af P F r as:=by
 simp only [af] at h
 exact h
theorem fnb {k:Nat} {sc:List (Str × NameKind)} {names others:List Str} {args:List AV} {body:List Stmt} (h:loC names args others fun l=>(WV W k sc).s l H body (wFn Q)):XS (BB W) k sc (kt names args others) H body (KFn Q) :=
 SV.mono (bF.s (sR h).2) fun f l H1 q=>by
  cases f with
  | ret a=>exact yZ q.out
  | next=>exact uj q.out
  | _=>exact q.elim
theorem pB {a b c d:AV} (hn:1≤n) (h0:loC ["datum","precision","radix","limit","table"] [a,b,c,d,.none] [] fun l=>(WV W (n - 1) gB).s l H (fb zt) (wFn Q)):ac (BB W) n (.ref 1267) [a,b,c,d] H Q:=by
 have h:=fnb h0
 clear h0
 obtain ⟨fd,hf,hfd⟩:∃ fd,FnOk (BB W) 1267 fd (fb zt)∧fd = _:=⟨_,py,rfl⟩
 obtain ⟨m,rfl⟩:∃ m,n = m + 1:=⟨n - 1,by lia⟩
 have hc:dN fd.scope ["datum","precision","radix","limit","table"] gB [] = true:=by rw [hfd]; kernel_rfl
 have hb:∀ (v1 v2 v3 v4:Value) (S:PySem.Setting),peek (BB W).K S (bindArgs fd ⟨[v1,v2,v3,v4],[]⟩) = some ((["datum","precision","radix","limit","table"]:List Str).zip [v1,v2,v3,v4,.none]):=by rw [hfd]; intro _ _ _ _ _; kernel_rfl
 clear hfd
 refine (sE hf (Entry.of hc rfl) (fun hpp F s vs R hv=>?_) h).call
 obtain ⟨v1,r1,rfl,k1,hv⟩:=dU hv
 obtain ⟨v2,r2,rfl,k2,hv⟩:=dU hv
 obtain ⟨v3,r3,rfl,k3,hv⟩:=dU hv
 refine E1 hv fun v4 k4=>?_
 exact ⟨[v1,v2,v3,v4,.none],kp_binds R.good.X (fun S=>hb _ _ _ _ S),.cons k1 (.cons k2 (.cons k3 (.cons k4 (.cons mh .nil))))⟩
theorem zg {a b c d:AV} (hn:1≤n) (h0:loC ["self","text","table","precision","is_folded"] [a,b,c,d,.bool true] [] fun l=>(WV W (n - 1) cQ).s l H (fb j1) (wFn Q)):aJ (BB W) n (.ref 1098) [a,b,c,d] H Q:=by
 have h:=fnb h0
 clear h0
 obtain ⟨fd,hf,hfd⟩:∃ fd,FnOk (BB W) 1098 fd (fb j1)∧fd = _:=⟨_,hY,rfl⟩
 obtain ⟨m,rfl⟩:∃ m,n = m + 1:=⟨n - 1,by lia⟩
 have hc:dN fd.scope ["self","text","table","precision","is_folded"] cQ [] = true:=by rw [hfd]; kernel_rfl
 have hb:∀ (v1 v2 v3 v4:Value) (S:PySem.Setting),peek (BB W).K S (bindArgs fd ⟨[v1,v2,v3,v4],[]⟩) = some ((["self","text","table","precision","is_folded"]:List Str).zip [v1,v2,v3,v4,.bool true]):=by rw [hfd]; intro _ _ _ _ _; kernel_rfl
 clear hfd
 refine (sE hf (Entry.of hc rfl) (fun hpp F s vs R hv=>?_) h)
 obtain ⟨v1,r1,rfl,k1,hv⟩:=dU hv
 obtain ⟨v2,r2,rfl,k2,hv⟩:=dU hv
 obtain ⟨v3,r3,rfl,k3,hv⟩:=dU hv
 refine E1 hv fun v4 k4=>?_
 exact ⟨[v1,v2,v3,v4,.bool true],kp_binds R.good.X (fun S=>hb _ _ _ _ S),.cons k1 (.cons k2 (.cons k3 (.cons k4 (.cons ak .nil))))⟩
theorem kP {v:AV} {s:List Nat} {k:Nat} (hn:12≤n) (hw:Wr H (.item (.tup [.int 1,v])) s k) (hk:k≤50000) (hs:s.length≤50000) (h:∀ ps m ws,Q (.str s) (PH H ps m ws)):ac (BB W) n (.ref 1267) [v,.int 8,.int 10,.int 100000] H Q:=by
 refine pB (by tm_at "o") ?_
 tm_at "in"
 refine rR (by tm_at "o") ?_
 have hp:=PH.p (H:=H) (ps:=[]) (m:=0) (ws:=[])
 unfold prI at hp
 tm_at "ww"
 refine Aa (by tm_at "o") hw hk hs fun ps m ws=>?_
 tm_at "ww"
 exact h ps m ws
end
section
set_option bootstrap.genMatcherCode false
variable {n:Nat} {H:HS} {Q:AV→HS→Prop}
noncomputable def tJ:List Nat:=(List.range 127).filter fun c=>decide (33≤c) && !(decide (65≤c) && decide (c≤90))
theorem EB:tJ.map (fun c=>Txt.find ⟨w7.cps.toList.toArray⟩ ⟨#[c]⟩) = tJ.map fun zz=>(-1:Int):=by kernel_rfl
inductive FoI (w:List Nat) (H:HS) (i:Nat) (loc:Loc) (H2:HS):Prop
 | mk (e0:i≤w.length) (e1:H2 = H++[.list ((w.take i).map fun c=>.str [c])]) (o1:Option AV) (o2:Option AV) (e4:loc = [lq "text" (some (.str w)),lq "letters" (some (.cell H.length)),lq "letter" o1,lq "at" o2])
theorem aY {w:List Nat} (hn:2≤n) (hz:w.length≤1000) (hw:∀ c ∈ w,c ∈ tJ) (h:Q (.str w) H):ac (BB W) n (.ref 928) [.str w] H Q:=by
 refine (aJ.pure fun zz zz=>?_).call
 refine am zv (by tm_at "o") ?_
 tm_at "in"
 refine aR (aU ⟨by decide,?_⟩)
 tm_at "ww"
 refine cB (h9 ?_)
 tm_at "ww"
 refine ⟨_,rfl,FoI w H,w.length,⟨Nat.zero_le _,rfl,none,none,rfl⟩,?_⟩
 rintro i loc _ ⟨hi,rfl,o1,o2,rfl⟩
 rw [cU]
 cases hx:(w.map fun c=>AV.str [c])[i]? with
 | none =>
  have hi':w.length≤i:=by simpa using List.getElem?_eq_none_iff.mp hx
  rw [List.take_of_length_le hi']
  tm_at "ww"
  refine qN (ys:=w.map fun c=>[c]) (.cell (by rw [aB]; simp)) (by rw [b0]; lia) ?_
  rw [b0]
  tm_at "ww"
  exact ⟨⟨_,rfl⟩,trivial,h⟩
 | some a =>
  rw [List.getElem?_map] at hx
  obtain ⟨c,hc,rfl⟩:=Option.map_eq_some_iff.mp hx
  have hlt:i < w.length:=(List.getElem?_eq_some_iff.mp hc).1
  have hf:Txt.find ⟨w7.cps.toList.toArray⟩ ⟨[c].toArray⟩ = -1:=bp EB (hw c (List.mem_of_getElem? hc))
  refine ⟨hlt,_,.name (by tm_at "mem") (.tail (.tail .head)),?_⟩
  tm_at "ww"
  refine NK ?_
  rw [hf]
  tm_at "ww"
  refine ⟨hlt,?_,some _,some _,rfl⟩
  rw [aq,List.take_add_one,hc]
  simp
noncomputable def jz (c:Nat):Bool:=decide (c ∈ pD.cps.toList) || decide (c ∈ rD.cps.toList)
noncomputable def xB (c:Nat):Bool:=jz c || (decide (c ∈ nc.cps.toList) || decide (c ∈ xk.cps.toList))
theorem dy {c:Nat} (hn:1≤n) (h:Q (.bool (jz c)) H):ac (BB W) n (.ref 935) [.str [c]] H Q:=by
 unfold jz at h
 refine ab vM (by tm_at "o") ?_
 tm_at "in"
 cases e1:decide (c ∈ pD.cps.toList) with
 | true =>
  rw [e1] at h
  tm_at "ww"
  exact h
 | false =>
  rw [e1] at h
  tm_at "ww"
  exact h
theorem oT {c:Nat} (hn:2≤n) (h:Q (.bool (xB c)) H):ac (BB W) n (.ref 942) [.str [c]] H Q:=by
 unfold xB at h
 refine ab uk (by tm_at "o") ?_
 tm_at "in"
 refine dy (by tm_at "o") ?_
 tm_at "ww"
 cases e1:jz c with
 | true =>
  rw [e1] at h
  tm_at "ww"
  exact h
 | false =>
  rw [e1] at h
  tm_at "ww"
  cases e2:decide (c ∈ nc.cps.toList) with
  | true =>
   rw [e2] at h
   tm_at "ww"
   exact h
  | false =>
   rw [e2] at h
   tm_at "ww"
   exact h
theorem zo {w:List Nat} (hn:1≤n) (hw:[[43],[45],[46,46,46]].any (· == w) = true) (h:Q (.bool true) H):ac (BB W) n (.ref 949) [.str w] H Q:=by
 refine ab bU (by tm_at "o") ?_
 tm_at "in"
 refine eB (ys:=[[43],[45],[46,46,46]]) ?_
 rw [hw]
 tm_at "ww"
 exact h
theorem BN {c:Nat} {r:List Nat} (hn:2≤n) (hz:r.length≤1000) (hw:[[43],[45],[46,46,46]].any (· == (c :: r)) = false) (hc:jz c = false) (h:Q (.bool false) H):ac (BB W) n (.ref 949) [.str (c :: r)] H Q:=by
 have hne:((c :: r) == ae "") = false:=rfl
 refine ab bU (by tm_at "o") ?_
 tm_at "in"
 refine eB (ys:=[[43],[45],[46,46,46]]) ?_
 rw [hw]
 tm_at "ww"
 refine bR (c:=c) (by decide) (by decide) rfl ?_
 tm_at "ww"
 refine dy (by tm_at "o") ?_
 rw [hc]
 tm_at "ww"
 exact h
theorem zK {c:Nat} {r:List Nat} (hn:3≤n) (hz:r.length≤1000) (hw:[[43],[45],[46,46,46]].any (· == (c :: r)) = false) (hc:jz c = true) (hr:∀ d ∈ r,xB d = true) (h:Q (.bool true) H):ac (BB W) n (.ref 949) [.str (c :: r)] H Q:=by
 have hne:((c :: r) == ae "") = false:=rfl
 refine ab bU (by tm_at "o") ?_
 tm_at "in"
 refine eB (ys:=[[43],[45],[46,46,46]]) ?_
 rw [hw]
 tm_at "ww"
 refine bR (c:=c) (by decide) (by decide) rfl ?_
 tm_at "ww"
 refine dy (by tm_at "o") ?_
 rw [hc]
 tm_at "ww"
 refine cB (h9 ?_)
 tm_at "ww"
 have es:bh (c :: r) (some (Int.toNat 1)) none = r:=by show ((c :: r).drop 1).take (r.length + 1 - 1) = r; simp
 rw [es]
 refine ⟨_,rfl,fun i loc H2=>H2 = H∧∃ o,loc = [lq "text" (some (.str (c :: r))),lq "letter" o],r.length,⟨rfl,none,rfl⟩,?_⟩
 rintro i loc _ ⟨rfl,o,rfl⟩
 rw [cU]
 cases hx:(r.map fun c=>AV.str [c])[i]? with
 | none =>
  tm_at "ww"
  exact h
 | some a =>
  rw [List.getElem?_map] at hx
  obtain ⟨d,hd,rfl⟩:=Option.map_eq_some_iff.mp hx
  refine ⟨(List.getElem?_eq_some_iff.mp hd).1,_,.name (by tm_at "mem") (.tail .head),?_⟩
  tm_at "ww"
  refine oT (by tm_at "o") ?_
  rw [hr d (List.mem_of_getElem? hd)]
  tm_at "ww"
  exact ⟨rfl,_,rfl⟩
theorem uw {c:Nat} {r:List Nat} (hn:1≤n) (hc:48≤c∧c≤57 ∨ c = 45) (h:Q (.bool true) H):ac (BB W) n (.ref 956) [.str (c :: r)] H Q:=by
 have ef:nc.cps.toList = [48,49,50,51,52,53,54,55,56,57]:=by kernel_rfl
 refine ab jB (by tm_at "o") ?_
 tm_at "in"
 refine bR (c:=c) (by decide) (by decide) rfl ?_
 tm_at "ww"
 rcases hc with hc | rfl
 ·have:decide (c ∈ nc.cps.toList) = true:=decide_eq_true (by rw [ef]; simp; lia)
  rw [this]
  tm_at "ww"
  exact h
 ·have:decide (45 ∈ nc.cps.toList) = false:=decide_eq_false (by rw [ef]; decide)
  rw [this]
  tm_at "ww"
  refine bR (c:=45) (by decide) (by decide) rfl ?_
  tm_at "ww"
  rw [show decide (45 ∈ ae "+-.") = true by decide +kernel]
  exact h
end
section
set_option bootstrap.genMatcherCode false
variable {n:Nat} {H:HS} {Q:AV→HS→Prop}
noncomputable def lxI (T:List Nat) (p:Nat):Cell:=.inst 1058 [lv' "text" (.str T),lv' "precision" (.int 8),lv' "place" (.int (p:Int)),lv' "is_folded" (.bool true)]
noncomputable abbrev cZ (w v:AV) (a b:Nat):AV:=.obj 917 ["word","value","start","end"] [w,v,.int (a:Int),.int (b:Int)]
theorem aT {l p e:Nat} {T:List Nat} {w v:AV} (hn:3≤n) (hl:H[l]? = some (lxI T p)) (h:Q (cZ w v p e) (H.set l (lxI T e))):ac (BB W) n (.ref 1013) [.cell l,w,v,.int (e:Int)] H Q:=by
 unfold lxI at hl h
 refine ab nY (by tm_at "o") ?_
 tm_at "in"
 refine mZ (by tm_at "o") ?_
 tm_at "ww"
 exact h
theorem cK {l p q:Nat} {T:List Nat}:(H.set l (lxI T p)).set l (lxI T q) = H.set l (lxI T q):=by rw [List.set_set]
theorem wH {l p q:Nat} {T:List Nat} (hl:H[l]? = some (lxI T p)):(H.set l (lxI T q))[l]? = some (lxI T q):=aj hl
theorem Gj {l p:Nat} {T:List Nat} (hl:H[l]? = some (lxI T p)):H.set l (lxI T p) = H:=by
 obtain ⟨hlt,e⟩:=List.getElem?_eq_some_iff.mp hl
 rw [← e,List.set_getElem_self]
noncomputable def cS (c:Nat):Bool:=decide (c ∈ rh.cps.toList)
structure Skip (T:List Nat) (p k:Nat):Prop where
 bl:∀ i,p≤i→i < k→T[i]? = some 32 ∨ T[i]? = some 10
 le:p≤k
 len:k≤T.length
 stop:∀ c,T[k]? = some c→c ≠ 59∧cS c = false
inductive SkpI (l p k:Nat) (T:List Nat) (H:HS) (m:Nat) (loc:Loc) (H2:HS):Prop
 | mk (q:Nat) (o1:Option AV) (o2:Option AV) (e3:m = k - q) (e4:p≤q) (e5:q≤k) (e6:H2 = H.set l (lxI T q)) (e7:loc = [lq "self" (some (.cell l)),lq "letter" o1,lq "end" o2])
theorem qF {l p k:Nat} {T:List Nat} (hn:1≤n) (hz:T.length≤100000) (hs:Skip T p k) (hl:H[l]? = some (lxI T p)) (h:Q .none (H.set l (lxI T k))):ac (BB W) n (.ref 992) [.cell l] H Q:=by
 refine ab pG (by tm_at "o") ?_
 tm_at "in"
 refine bI (SkpI l p k T H) (k - p) ⟨p,none,none,rfl,Nat.le_refl _,hs.le,(Gj hl).symm,rfl⟩ ?_
 rintro _ _ _ ⟨q,o1,o2,rfl,hq0,hq1,rfl,rfl⟩
 have hg:=wH (q:=q) hl
 have hlen:=hs.len
 unfold lxI at hg
 tm_at "ww"
 by_cases c1:q < T.length
 ·refine b7 (decide_eq_true (by tm_at "o")) ?_
  tm_at "ww"
  obtain ⟨c,hc⟩:∃ c,T[q]? = some c:=⟨_,List.getElem?_eq_getElem c1⟩
  refine bR (c:=c) (by tm_at "o") (by tm_at "o") (by rw [Int.toNat_natCast]; exact hc) ?_
  tm_at "ww"
  have e59:ae ";" = [59]:=by decide +kernel
  rw [e59]
  by_cases c2:q < k
  ·have hb:decide (c ∈ rh.cps.toList) = true:=by
    have eb:rh.cps.toList = [32,10,9,13,12]:=by kernel_rfl
    rw [eb]
    rcases hs.bl q hq0 c2 with e | e <;> (rw [hc] at e; cases e; rfl)
   have h59:([c] == [59]) = false:=by rcases hs.bl q hq0 c2 with e | e <;> (rw [hc] at e; cases e; rfl)
   refine al h59 ?_
   tm_at "ww"
   refine b7 hb ?_
   tm_at "ww"
   exact ⟨k - (q + 1),by lia,q + 1,_,_,rfl,by lia,by lia,cK,rfl⟩
  ·obtain rfl:q = k:=by lia
   obtain ⟨h59,hb⟩:=hs.stop c hc
   refine al (by simpa using h59) ?_
   tm_at "ww"
   refine al hb ?_
   tm_at "ww"
   exact h
 ·refine al (decide_eq_false (by tm_at "o")) ?_
  obtain rfl:q = k:=by lia
  tm_at "ww"
  exact h
noncomputable def ba (c:Nat):Bool:=decide (c ∈ wv.cps.toList)
noncomputable def resB (c:Nat):Bool:=decide (c ∈ xl.cps.toList)
structure WordAt (T:List Nat) (s e:Nat):Prop where
 le:s≤e
 len:e≤T.length
 mid:∀ i,s≤i→i < e→∃ c,T[i]? = some c∧ba c = false∧resB c = false
 stop:∀ c,T[e]? = some c→ba c = true
inductive WeI (l s e:Nat) (H:HS) (m:Nat) (loc:Loc) (H2:HS):Prop
 | mk (q:Nat) (e1:m = e - q) (e2:s≤q) (e3:q≤e) (e4:H2 = H) (e5:loc = [lq "self" (some (.cell l)),lq "start" (some (.int (s:Int))),lq "at" (some (.int (q:Int)))])
theorem dE {l p s e:Nat} {T:List Nat} (hn:1≤n) (hz:T.length≤100000) (hw:WordAt T s e) (hl:H[l]? = some (lxI T p)) (h:Q (.int (e:Int)) H):ac (BB W) n (.ref 1020) [.cell l,.int (s:Int)] H Q:=by
 unfold lxI at hl
 refine ab iX (by tm_at "o") ?_
 tm_at "in"
 refine bI (WeI l s e H) (e - s) ⟨s,rfl,Nat.le_refl _,hw.le,rfl,rfl⟩ ?_
 rintro _ _ _ ⟨q,rfl,hq0,hq1,rfl,rfl⟩
 have hlen:=hw.len
 tm_at "ww"
 by_cases c1:q < T.length
 ·refine b7 (decide_eq_true (by tm_at "o")) ?_
  tm_at "ww"
  obtain ⟨c,hc⟩:∃ c,T[q]? = some c:=⟨_,List.getElem?_eq_getElem c1⟩
  refine bR (c:=c) (by tm_at "o") (by tm_at "o") (by rw [Int.toNat_natCast]; exact hc) ?_
  tm_at "ww"
  by_cases c2:q < e
  ·obtain ⟨c',hc',hd,hr⟩:=hw.mid q hq0 c2
   rw [hc] at hc'
   cases hc'
   unfold ba at hd
   unfold resB at hr
   rw [hd]
   tm_at "ww"
   refine bR (c:=c) (by tm_at "o") (by tm_at "o") (by rw [Int.toNat_natCast]; exact hc) ?_
   tm_at "ww"
   rw [hr]
   tm_at "ww"
   exact ⟨e - (q + 1),by lia,q + 1,rfl,by lia,by lia,rfl,rfl⟩
  ·obtain rfl:q = e:=by lia
   have hd:=hw.stop c hc
   unfold ba at hd
   rw [hd]
   tm_at "ww"
   exact h
 ·refine al (decide_eq_false (by tm_at "o")) ?_
  obtain rfl:q = e:=by lia
  tm_at "ww"
  exact h
theorem nD {l p s:Nat} {T:List Nat} {k:Int} (hn:6≤n) (h0:-20≤k) (h1:k < 20) (hl:H[l]? = some (lxI T p)) (h:Q (.int k) H):ac (BB W) n (.ref 1034) [.cell l,.str (aH k),.int (s:Int)] H Q:=by
 unfold lxI at hl
 refine ab hN (by tm_at "o") ?_
 tm_at "in"
 refine iN h0 h1 (by tm_at "o") ?_
 tm_at "ww"
 exact h
end
section
set_option bootstrap.genMatcherCode false
variable {n:Nat} {H:HS} {Q:AV→HS→Prop}
theorem qZ:eX.all (fun w=>w.all (tJ.contains ·) && decide (w.length≤4) && !(w == [46]) && !w.isEmpty) = true:=by kernel_rfl
theorem zr:eX.all (fun w=>[[43],[45],[46,46,46]].any (· == w) || match w with | c :: r=>(decide (c ∈ pD.cps.toList) || decide (c ∈ rD.cps.toList)) && r.all (fun c=>(decide (c ∈ pD.cps.toList) || decide (c ∈ rD.cps.toList)) || (decide (c ∈ nc.cps.toList) || decide (c ∈ xk.cps.toList))) | []=>false) = true:=by kernel_rfl
theorem zV:K40.all (fun k=>(aH k).all (tJ.contains ·) && decide ((aH k).length≤3) && !(aH k == [46]) && ![[43],[45],[46,46,46]].any (· == aH k) && match aH k with | c :: r=>!(decide (c ∈ pD.cps.toList) || decide (c ∈ rD.cps.toList)) && (decide (48≤c) && decide (c≤57) || decide (c = 45)) | []=>false) = true:=by kernel_rfl
theorem uL {w:List Nat} (hn:3≤n) (hw:w ∈ eX) (h:Q (.bool true) H):ac (BB W) n (.ref 949) [.str w] H Q:=by
 have k:=List.all_eq_true.mp zr w hw
 have k2:=List.all_eq_true.mp qZ w hw
 cases hp:[[43],[45],[46,46,46]].any (· == w) with
 | true=>exact zo (by tm_at "o") hp h
 | false =>
  rw [hp,Bool.false_or] at k
  cases w with
  | nil=>cases k
  | cons c r =>
   simp only [Bool.and_eq_true,List.all_eq_true,decide_eq_true_eq] at k2
   have k:_∧_:=(Bool.and_eq_true _ _).mp k
   exact zK hn (by have:=k2.1.1.2; simp at this; lia) hp k.1 (fun d hd=>List.all_eq_true.mp k.2 d hd) h
theorem xh {T w:List Nat} {s e:Nat} (h:bh T (some s) (some e) = w):bh T (some (Int.toNat (s:Int))) (some (Int.toNat (e:Int))) = w:=by rw [Int.toNat_natCast,Int.toNat_natCast]; exact h
theorem pI {l s e:Nat} {T w:List Nat} (hn:4≤n) (hz:T.length≤100000) (hw:WordAt T s e) (hs:bh T (some s) (some e) = w) (hm:w ∈ eX) (hl:H[l]? = some (lxI T s)) (h:Q (cZ (.str (ae "symbol")) (.str w) s e) (H.set l (lxI T e))):ac (BB W) n (.ref 1027) [.cell l] H Q:=by
 have k:=List.all_eq_true.mp qZ w hm
 simp only [Bool.and_eq_true,List.all_eq_true,decide_eq_true_eq,List.contains_iff_mem,Bool.not_eq_true'] at k
 have hl':=hl
 unfold lxI at hl
 refine ab bu (by tm_at "o") ?_
 tm_at "in"
 refine dE (by tm_at "o") hz hw hl' ?_
 tm_at "ww"
 rw [xh hs]
 have e46:ae "." = [46]:=by decide +kernel
 rw [e46]
 refine al k.1.2 ?_
 tm_at "ww"
 refine aY (by tm_at "o") (by tm_at "o") k.1.1.1 ?_
 tm_at "ww"
 refine uL (by tm_at "o") hm ?_
 tm_at "ww"
 refine aT (by tm_at "o") hl' ?_
 tm_at "ww"
 exact h
theorem p7 {l s e:Nat} {T:List Nat} (hn:4≤n) (hz:T.length≤100000) (hw:WordAt T s e) (hs:bh T (some s) (some e) = [46]) (hl:H[l]? = some (lxI T s)) (h:Q (cZ (.str (ae ".")) .none s e) (H.set l (lxI T e))):ac (BB W) n (.ref 1027) [.cell l] H Q:=by
 have hl':=hl
 unfold lxI at hl
 refine ab bu (by tm_at "o") ?_
 tm_at "in"
 refine dE (by tm_at "o") hz hw hl' ?_
 tm_at "ww"
 rw [xh hs]
 have e46:ae "." = [46]:=by decide +kernel
 refine b7 (by rw [e46]; rfl) ?_
 tm_at "ww"
 refine aT (by tm_at "o") hl' ?_
 tm_at "ww"
 exact h
theorem pM {l s e:Nat} {T:List Nat} {i:Int} (hn:8≤n) (h0:-20≤i) (h1:i < 20) (hz:T.length≤100000) (hw:WordAt T s e) (hs:bh T (some s) (some e) = aH i) (hl:H[l]? = some (lxI T s)) (h:Q (cZ (.str (ae "number")) (.int i) s e) (H.set l (lxI T e))):ac (BB W) n (.ref 1027) [.cell l] H Q:=by
 have k:=List.all_eq_true.mp zV i (k40 h0 h1)
 simp only [Bool.and_eq_true,List.all_eq_true,decide_eq_true_eq,List.contains_iff_mem,Bool.not_eq_true'] at k
 obtain ⟨⟨⟨⟨k1,k2⟩,k3⟩,k4⟩,k5⟩:=k
 have hl':=hl
 unfold lxI at hl
 refine ab bu (by tm_at "o") ?_
 tm_at "in"
 refine dE (by tm_at "o") hz hw hl' ?_
 tm_at "ww"
 rw [xh hs]
 have e46:ae "." = [46]:=by decide +kernel
 rw [e46]
 refine al k3 ?_
 tm_at "ww"
 refine aY (by tm_at "o") (by tm_at "o") k1 ?_
 tm_at "ww"
 have hid:∀ {Q:AV→HS→Prop} {H:HS},Q (.bool false) H→ac (BB W) (n - 1) (.ref 949) [.str (aH i)] H Q:=fun {Q H} q=>by
  cases hc:aH i with
  | nil=>rw [hc] at k5; cases k5
  | cons c r =>
   rw [hc] at k5 k4 k2
   simp only [Bool.and_eq_true,Bool.not_eq_true'] at k5
   exact BN (by tm_at "o") (by simp at k2; lia) k4 k5.1 q
 have hnl:∀ {Q:AV→HS→Prop} {H:HS},Q (.bool true) H→ac (BB W) (n - 1) (.ref 956) [.str (aH i)] H Q:=fun {Q H} q=>by
  cases hc:aH i with
  | nil=>rw [hc] at k5; cases k5
  | cons c r =>
   rw [hc] at k5
   simp only [Bool.and_eq_true,Bool.or_eq_true,decide_eq_true_eq] at k5
   exact uw (by tm_at "o") k5.2 q
 refine hid ?_
 tm_at "ww"
 refine hnl ?_
 tm_at "ww"
 refine nD (by tm_at "o") h0 h1 hl' ?_
 tm_at "ww"
 refine aT (by tm_at "o") hl' ?_
 tm_at "ww"
 exact h
end
section
set_option bootstrap.genMatcherCode false
variable {n:Nat} {H:HS} {Q:AV→HS→Prop}
structure SgAt (T:List Nat) (s e:Nat):Prop where
 le:s + 3≤e
 len:e≤T.length
 mid:∀ i,s + 3≤i→i < e→∃ c,T[i]? = some c∧ba c = false
 stop:∀ c,T[e]? = some c→ba c = true
set_option tactic.hygienic true in
theorem lr {c:Nat} {w:List Nat} (hn:3≤n) (hc:bT c = some w) (h:Q (.str [c]) H):ac (BB W) n (.ref 963) [.str w] H Q:=by
 have e1:Au.cps.toList = [32]:=rfl
 have e2:Eg.cps.toList = [10]:=rfl
 have e3:Dr.cps.toList = ae "space":=by kernel_rfl
 have e4:BU.cps.toList = ae "newline":=by kernel_rfl
 have hlow:((ae "space").all (tJ.contains ·) && (ae "newline").all (tJ.contains ·)) = true:=by decide +kernel
 simp only [Bool.and_eq_true,List.all_eq_true,List.contains_iff_mem] at hlow
 refine ab pX (by tm_at "o") ?_
 tm_at "in"
 refine nh ?_
 tm_at "ww"
 unfold bT at hc
 split at hc
 ·cases hc
  rename_i hc; subst hc
  refine aY (by tm_at "o") (by decide +kernel) hlow.1 ?_
  rw [e3]
  tm_at "ww"
  rw [e1]
  exact h
 ·split at hc
  ·cases hc
   rename_i hc; subst hc
   refine aY (by tm_at "o") (by decide +kernel) hlow.2 ?_
   rw [e3]
   tm_at "ww"
   refine aY (by tm_at "o") (by decide +kernel) hlow.2 ?_
   rw [e4]
   tm_at "ww"
   rw [e2]
   exact h
  ·cases hc
noncomputable def ew (c:Nat):List Nat:=(bT c).getD [c]
theorem lY {l s e c:Nat} {T:List Nat} (hn:4≤n) (hz:T.length≤100000) (hw:SgAt T s e) (hs:bh T (some (s + 2)) (some e) = ew c) (hl:H[l]? = some (lxI T s)) (h:Q (cZ (.str (ae "char")) (chA c) s e) (H.set l (lxI T e))):ac (BB W) n (.ref 1048) [.cell l] H Q:=by
 have hl':=hl
 have h1:=hw.le
 have h2:=hw.len
 unfold lxI at hl
 refine ab f8 (by tm_at "o") ?_
 tm_at "in"
 refine al (beq_eq_false_iff_ne.mpr (by tm_at "o")) ?_
 tm_at "ww"
 refine SV.mono (Q:=fun f l' H'=>f = .next∧l' = [lq "self" (some (.cell l)),lq "start" (some (.int (s:Int))),lq "end" (some (.int (e:Int))),lq "own" none,lq "letter" none]∧H' = H) (mQ (fun m loc H2=>∃ q:Nat,m = e - q∧s + 3≤q∧q≤e∧H2 = H∧loc = [lq "self" (some (.cell l)),lq "start" (some (.int (s:Int))),lq "end" (some (.int (q:Int))),lq "own" none,lq "letter" none]) (e - (s + 3)) ⟨s + 3,rfl,Nat.le_refl _,hw.le,rfl,rfl⟩ ?_) ?_
 ·rintro _ _ _ ⟨q,rfl,hq0,hq1,rfl,rfl⟩
  tm_at "ww"
  by_cases c1:q < T.length
  ·refine b7 (decide_eq_true (by tm_at "o")) ?_
   tm_at "ww"
   obtain ⟨d,hd⟩:∃ d,T[q]? = some d:=⟨_,List.getElem?_eq_getElem c1⟩
   refine bR (c:=d) (by tm_at "o") (by tm_at "o") (by rw [Int.toNat_natCast]; exact hd) ?_
   tm_at "ww"
   by_cases c2:q < e
   ·obtain ⟨d',hd',hdl⟩:=hw.mid q hq0 c2
    rw [hd] at hd'
    cases hd'
    unfold ba at hdl
    rw [hdl]
    tm_at "ww"
    exact ⟨e - (q + 1),by lia,q + 1,rfl,by lia,by lia,rfl,rfl⟩
   ·obtain rfl:q = e:=by lia
    have hdl:=hw.stop d hd
    unfold ba at hdl
    rw [hdl]
    tm_at "ww"
    exact ⟨rfl,rfl,rfl⟩
  ·refine al (decide_eq_false (by tm_at "o")) ?_
   obtain rfl:q = e:=by lia
   tm_at "ww"
   exact ⟨rfl,rfl,rfl⟩
 ·rintro _ _ _ ⟨rfl,rfl,rfl⟩
  tm_at "ww"
  have hs':bh T (some ((s:Int) + 2).toNat) (some (Int.toNat (e:Int))) = ew c:=by rw [Int.toNat_natCast,show ((s:Int) + 2).toNat = s + 2 by lia]; exact hs
  rw [hs']
  have hown:(ew c).length≤7:=by
   unfold ew
   cases e:bT c with
   | none=>simp
   | some w=>simpa using mr e
  tm_at "ww"
  cases hnm:bT c with
  | none =>
   have ho:ew c = [c]:=by unfold ew; rw [hnm]; rfl
   rw [ho]
   refine b7 rfl ?_
   tm_at "ww"
   refine jp (by tm_at "o") ?_
   tm_at "ww"
   refine aT (by tm_at "o") hl' ?_
   tm_at "ww"
   exact h
  | some w =>
   have ho:ew c = w:=by unfold ew; rw [hnm]; rfl
   rw [ho]
   have hw1:(((w.length:Nat):Int) == 1) = false:=by
    unfold bT at hnm
    split at hnm
    ·cases hnm; decide +kernel
    ·split at hnm
     ·cases hnm; decide +kernel
     ·cases hnm
   refine al hw1 ?_
   tm_at "ww"
   refine lr (by tm_at "o") hnm ?_
   tm_at "ww"
   refine jp (by tm_at "o") ?_
   tm_at "ww"
   refine aT (by tm_at "o") hl' ?_
   tm_at "ww"
   exact h
structure StrAt (T:List Nat) (s:Nat) (cs:List Nat):Prop where
 ok:∀ i,i < (cb cs).length→T[s + i]? = (cb cs)[i]?
 len:s + (cb cs).length≤T.length
noncomputable def bB (cs:List Nat) (i:Nat):Nat:=1 + (esc (cs.take i)).length
theorem pk {cs:List Nat} {i c:Nat} (hc:cs[i]? = some c):esc cs = esc (cs.take i)++((if c = 34 ∨ c = 92 then [92,c] else [c])++esc (cs.drop (i + 1))):=by
 have hlt:=(List.getElem?_eq_some_iff.mp hc).1
 have e:cs = cs.take i++c :: cs.drop (i + 1):=by
  have:=(List.take_append_drop i cs).symm
  rw [List.drop_eq_getElem_cons hlt,(List.getElem?_eq_some_iff.mp hc).2] at this
  exact this
 conv=>lhs; rw [e,mq]
 rfl
theorem Gc {cs:List Nat} {i c:Nat} (hc:cs[i]? = some c):(if c = 34 ∨ c = 92 then (cb cs)[bB cs i]? = some 92∧(cb cs)[bB cs i + 1]? = some c∧bB cs (i + 1) = bB cs i + 2 else (cb cs)[bB cs i]? = some c∧bB cs (i + 1) = bB cs i + 1)∧bB cs (i + 1) < (cb cs).length:=by
 have e:=pk hc
 have e1:esc (cs.take (i + 1)) = esc (cs.take i)++(if c = 34 ∨ c = 92 then [92,c] else [c]):=by
  rw [List.take_add_one,hc,mq]
  simp [esc]
 have sT:cb cs = (34 :: esc (cs.take i))++((if c = 34 ∨ c = 92 then [92,c] else [c])++(esc (cs.drop (i + 1))++[34])):=by
  unfold cb; rw [e]; simp
 have hl:(34 :: esc (cs.take i)).length = bB cs i:=by unfold bB; simp; lia
 refine ⟨?_,?_⟩
 ·by_cases q:c = 34 ∨ c = 92
  ·rw [if_pos q] at sT e1 ⊢
   refine ⟨?_,?_,?_⟩
   ·rw [sT,List.getElem?_append_right (by tm_at "o"),hl,Nat.sub_self]; rfl
   ·rw [sT,List.getElem?_append_right (by tm_at "o"),hl,Nat.add_sub_cancel_left]; rfl
   ·unfold bB; rw [e1]; simp; lia
  ·rw [if_neg q] at sT e1 ⊢
   refine ⟨?_,?_⟩
   ·rw [sT,List.getElem?_append_right (by tm_at "o"),hl,Nat.sub_self]; rfl
   ·unfold bB; rw [e1]; simp; lia
 ·rw [sT]; unfold bB; rw [e1]; simp; lia
theorem Bd {cs:List Nat}:(cb cs)[bB cs cs.length]? = some 34∧bB cs cs.length + 1 = (cb cs).length:=by
 unfold cb bB
 rw [List.take_length]
 refine ⟨?_,by simp; lia⟩
 rw [List.getElem?_append_right (by simp; lia)]
 simp
 rw [show 1 + (esc cs).length - ((esc cs).length + 1) = 0 by lia]
 rfl
theorem RT {T:List Nat} {p c:Nat} (h:T[p]? = some c):bh T (some p) (some (p + 1)) = [c]:=by
 obtain ⟨hlt,e⟩:=List.getElem?_eq_some_iff.mp h
 show (T.drop p).take (p + 1 - p) = [c]
 rw [List.drop_eq_getElem_cons hlt,e,Nat.add_sub_cancel_left]
 rfl
theorem OV {l p:Nat} {T:List Nat} (h:HWf H):HWf (H.set l (lxI T p)):=fun c hc=>by
 rw [List.length_set]
 rcases List.mem_or_eq_of_mem_set hc with hc | rfl
 ·exact h c hc
 ·unfold lxI
  simp only [Cell.bd,List.map_cons,List.map_nil,AV.bds,AV.bd,and_true]
inductive StkI (l s:Nat) (cs:List Nat) (H:HS) (m:Nat) (loc:Loc) (H2:HS):Prop
 | mk (i:Nat) (o:Option AV) (e2:m = cs.length - i) (e3:i≤cs.length) (e4:H2 = H++[.list ((cs.take i).map fun c=>.str [c])]) (e5:loc = [lq "self" (some (.cell l)),lq "start" (some (.int (s:Int))),lq "letters" (some (.cell H.length)),lq "at" (some (.int ((s + bB cs i:Nat):Int))),lq "letter" o])
theorem kM {l s:Nat} {T cs:List Nat} (hn:5≤n) (hz:T.length≤100000) (hw:StrAt T s cs) (hc:cs.length≤1000) (hl:H[l]? = some (lxI T s)) (h:Q (cZ (.str (ae "string")) (txA cs .none) s (s + (cb cs).length)) (H.set l (lxI T (s + (cb cs).length)))):ac (BB W) n (.ref 1055) [.cell l] H Q:=by
 have hl':=hl
 have hlt:=ar hl
 unfold lxI at hl
 refine (aJ.gc fun hwf zz=>?_).call
 refine am kW (by tm_at "o") ?_
 tm_at "in"
 refine aR (aU ⟨by decide,?_⟩)
 tm_at "ww"
 refine bI (StkI l s cs H) cs.length ⟨0,none,rfl,Nat.zero_le _,rfl,rfl⟩ ?_
 rintro _ _ _ ⟨i,o,rfl,hi,rfl,rfl⟩
 have hlen:=hw.len
 tm_at "ww"
 have eq34:ae "\"" = [34]:=by decide +kernel
 have eq92:ae "\\" = [92]:=by decide +kernel
 have hnil:ae "" = []:=rfl
 by_cases hi2:i < cs.length
 ·obtain ⟨c,hcc⟩:∃ c,cs[i]? = some c:=⟨_,List.getElem?_eq_getElem hi2⟩
  obtain ⟨k1,k2⟩:=Gc hcc
  by_cases q:c = 34 ∨ c = 92
  ·rw [if_pos q] at k1
   obtain ⟨k3,k4,k5⟩:=k1
   have t1:T[s + bB cs i]? = some 92:=(hw.ok _ (by tm_at "o")).trans k3
   have t2:T[s + bB cs i + 1]? = some c:=by rw [Nat.add_assoc]; exact (hw.ok _ (by tm_at "o")).trans k4
   refine al (decide_eq_false (by tm_at "o")) ?_
   tm_at "ww"
   refine bR (c:=92) (by tm_at "o") (by tm_at "o") (by rw [Int.toNat_natCast]; exact t1) ?_
   tm_at "ww"
   have e1:bh T (some (((s + bB cs i:Nat):Int) + 1).toNat) (some (((s + bB cs i:Nat):Int) + 1 + 1).toNat) = [c]:=by
    rw [show (((s + bB cs i:Nat):Int) + 1).toNat = s + bB cs i + 1 by lia,show (((s + bB cs i:Nat):Int) + 1 + 1).toNat = s + bB cs i + 1 + 1 by lia]
    exact RT t2
   rw [e1]
   refine al (by rw [hnil]; rfl) ?_
   tm_at "ww"
   rw [eq34]
   have hP:((s + bB cs (i + 1):Nat):Int) = ((s + bB cs i:Nat):Int) + 1 + 1:=by lia
   rcases q with rfl | rfl
   ·tm_at "ww"
    refine ⟨cs.length - (i + 1),by lia,i + 1,_,rfl,by lia,?_,by rw [hP]⟩
    rw [aq,List.take_add_one,hcc]
    simp
   ·tm_at "ww"
    refine ⟨cs.length - (i + 1),by lia,i + 1,_,rfl,by lia,?_,by rw [hP]⟩
    rw [aq,List.take_add_one,hcc]
    simp
  ·rw [if_neg q] at k1
   obtain ⟨k3,k5⟩:=k1
   have t1:T[s + bB cs i]? = some c:=(hw.ok _ (by tm_at "o")).trans k3
   refine al (decide_eq_false (by tm_at "o")) ?_
   tm_at "ww"
   refine bR (c:=c) (by tm_at "o") (by tm_at "o") (by rw [Int.toNat_natCast]; exact t1) ?_
   tm_at "ww"
   refine al (by rw [eq34]; exact beq_eq_false_iff_ne.mpr fun e=>q (.inl (by cases e; rfl))) ?_
   tm_at "ww"
   refine al (by rw [eq92]; exact beq_eq_false_iff_ne.mpr fun e=>q (.inr (by cases e; rfl))) ?_
   tm_at "ww"
   have hP:((s + bB cs (i + 1):Nat):Int) = ((s + bB cs i:Nat):Int) + 1:=by lia
   refine ⟨cs.length - (i + 1),by lia,i + 1,_,rfl,by lia,?_,by rw [hP]⟩
   rw [aq,List.take_add_one,hcc]
   simp
 ·obtain rfl:i = cs.length:=by lia
  obtain ⟨k1,k2⟩:=Bd (cs:=cs)
  have t1:T[s + bB cs cs.length]? = some 34:=(hw.ok _ (by tm_at "o")).trans k1
  rw [List.take_length]
  refine al (decide_eq_false (by tm_at "o")) ?_
  tm_at "ww"
  refine bR (c:=34) (by tm_at "o") (by tm_at "o") (by rw [Int.toNat_natCast]; exact t1) ?_
  tm_at "ww"
  refine qN (ys:=cs.map fun c=>[c]) (.cell (by rw [aB]; simp)) (by rw [b0]; lia) ?_
  rw [b0]
  tm_at "ww"
  refine mP (by tm_at "o") (by tm_at "o") ?_
  tm_at "ww"
  have hP:((s + bB cs cs.length:Nat):Int) + 1 = ((s + (cb cs).length:Nat):Int):=by lia
  rw [hP]
  refine aT (by tm_at "o") (aw hl') ?_
  tm_at "ww"
  rw [Gg hlt]
  refine ⟨_,_,rfl,by rw [List.length_set]; lia,OV hwf,?_,h⟩
  rw [List.length_set]
  simp only [AV.bd,AV.bds,and_true,true_and]
  exact cH
end
section
set_option bootstrap.genMatcherCode false
variable {n:Nat} {H:HS} {Q:AV→HS→Prop}
theorem FN {c:Nat} (h:tJ.contains c = true):∀ d ∈ [c],d ∈ tJ:=fun d hd=>by
 obtain rfl:=List.mem_singleton.mp hd
 exact List.contains_iff_mem.mp h
theorem yC {T:List Nat} {s c:Nat} (h:T[s + 1]? = some c):bh T (some ((s:Int) + 1).toNat) (some ((s:Int) + 2).toNat) = [c]:=by
 rw [show ((s:Int) + 1).toNat = s + 1 by lia,show ((s:Int) + 2).toNat = s + 1 + 1 by lia]
 exact RT h
theorem z8 {l s:Nat} {T:List Nat} (hn:4≤n) (hz:T.length≤100000) (h1:T[s + 1]? = some 40) (hl:H[l]? = some (lxI T s)) (h:Q (cZ (.str (ae "#(")) .none s (s + 2)) (H.set l (lxI T (s + 2)))):ac (BB W) n (.ref 1041) [.cell l] H Q:=by
 have hl':=hl
 have hlen:=(List.getElem?_eq_some_iff.mp h1).1
 unfold lxI at hl
 refine ab bM (by tm_at "o") ?_
 tm_at "in"
 rw [yC h1]
 refine aY (by tm_at "o") (by decide) (FN (by decide +kernel)) ?_
 tm_at "ww"
 refine aT (e:=s + 2) (by tm_at "o") hl' ?_
 tm_at "ww"
 exact h
theorem ED {l s:Nat} {T:List Nat} (hn:4≤n) (hz:T.length≤100000) (h1:T[s + 1]? = some 116) (hl:H[l]? = some (lxI T s)) (h:Q (cZ (.str (ae "boolean")) (.bool true) s (s + 2)) (H.set l (lxI T (s + 2)))):ac (BB W) n (.ref 1041) [.cell l] H Q:=by
 have hl':=hl
 have hlen:=(List.getElem?_eq_some_iff.mp h1).1
 unfold lxI at hl
 refine ab bM (by tm_at "o") ?_
 tm_at "in"
 rw [yC h1]
 refine aY (by tm_at "o") (by decide) (FN (by decide +kernel)) ?_
 tm_at "ww"
 refine aT (e:=s + 2) (by tm_at "o") hl' ?_
 tm_at "ww"
 exact h
theorem FB {l s:Nat} {T:List Nat} (hn:4≤n) (hz:T.length≤100000) (h1:T[s + 1]? = some 102) (hl:H[l]? = some (lxI T s)) (h:Q (cZ (.str (ae "boolean")) (.bool false) s (s + 2)) (H.set l (lxI T (s + 2)))):ac (BB W) n (.ref 1041) [.cell l] H Q:=by
 have hl':=hl
 have hlen:=(List.getElem?_eq_some_iff.mp h1).1
 unfold lxI at hl
 refine ab bM (by tm_at "o") ?_
 tm_at "in"
 rw [yC h1]
 refine aY (by tm_at "o") (by decide) (FN (by decide +kernel)) ?_
 tm_at "ww"
 refine aT (e:=s + 2) (by tm_at "o") hl' ?_
 tm_at "ww"
 exact h
theorem zp {l s e c:Nat} {T:List Nat} (hn:5≤n) (hz:T.length≤100000) (h1:T[s + 1]? = some 92) (hw:SgAt T s e) (hs:bh T (some (s + 2)) (some e) = ew c) (hl:H[l]? = some (lxI T s)) (h:Q (cZ (.str (ae "char")) (chA c) s e) (H.set l (lxI T e))):ac (BB W) n (.ref 1041) [.cell l] H Q:=by
 have hl':=hl
 have hlen:=(List.getElem?_eq_some_iff.mp h1).1
 unfold lxI at hl
 refine ab bM (by tm_at "o") ?_
 tm_at "in"
 rw [yC h1]
 refine aY (by tm_at "o") (by decide) (FN (by decide +kernel)) ?_
 tm_at "ww"
 refine lY (by tm_at "o") hz hw hs hl' ?_
 tm_at "ww"
 exact h
inductive Tk | op | vop | cl | dot | sym (w:List Nat) | num (k:Int) | bool (b:Bool) | chr (c:Nat) | str (cs:List Nat)
noncomputable def Tk.word:Tk→List Nat
 | .op=>ae "(" | .vop=>ae "#(" | .cl=>ae ")" | .dot=>ae "." | .sym _=>ae "symbol" | .num _=>ae "number" | .bool _=>ae "boolean" | .chr _=>ae "char" | .str _=>ae "string"
noncomputable def Tk.val:Tk→AV
 | .op | .vop | .cl | .dot=>.none
 | .sym w=>.str w
 | .num k=>.int k
 | .bool b=>.bool b
 | .chr c=>chA c
 | .str cs=>txA cs .none
noncomputable def dD:List Nat:=[40,41,39,96,44,34,35]
noncomputable def tI (T:List Nat) (s e:Nat) (w:List Nat):Prop:=WordAt T s e∧bh T (some s) (some e) = w∧∃ c,T[s]? = some c∧dD.contains c = false
noncomputable def DN (T:List Nat) (s e:Nat):Tk→Prop
 | .op=>T[s]? = some 40∧e = s + 1
 | .vop=>T[s]? = some 35∧T[s + 1]? = some 40∧e = s + 2
 | .cl=>T[s]? = some 41∧e = s + 1
 | .dot=>tI T s e [46]
 | .sym w=>w ∈ eX∧tI T s e w
 | .num k=>(-20≤k∧k < 20)∧tI T s e (aH k)
 | .bool b=>T[s]? = some 35∧T[s + 1]? = some (if b = true then 116 else 102)∧e = s + 2
 | .chr c=>T[s]? = some 35∧T[s + 1]? = some 92∧SgAt T s e∧bh T (some (s + 2)) (some e) = ew c
 | .str cs=>StrAt T s cs∧cs.length≤1000∧e = s + (cb cs).length
theorem zX {l p s:Nat} {T:List Nat} (hn:3≤n) (hz:T.length≤100000) (hs:Skip T p T.length) (hl:H[l]? = some (lxI T p)) (h:Q (cZ (.str (ae "end")) .none T.length T.length) (H.set l (lxI T T.length))):ac (BB W) n (.ref 1006) [.cell l] H Q:=by
 have hg:=wH (q:=T.length) hl
 have hl':=hl
 unfold lxI at hl hg
 refine ab fj (by tm_at "o") ?_
 tm_at "in"
 refine qF (by tm_at "o") hz hs hl' ?_
 tm_at "ww"
 refine b7 (beq_self_eq_true _) ?_
 tm_at "ww"
 refine mZ (by tm_at "o") ?_
 tm_at "ww"
 exact h
theorem E8 {T:List Nat} {s e:Nat} {t:Tk} (ht:DN T s e t):∃ c,T[s]? = some c∧e≤T.length:=by
 cases t with
 | op=>exact ⟨_,ht.1,by have:=(List.getElem?_eq_some_iff.mp ht.1).1; have:=ht.2; lia⟩
 | cl=>exact ⟨_,ht.1,by have:=(List.getElem?_eq_some_iff.mp ht.1).1; have:=ht.2; lia⟩
 | vop=>exact ⟨_,ht.1,by have:=(List.getElem?_eq_some_iff.mp ht.2.1).1; have:=ht.2.2; lia⟩
 | dot=>obtain ⟨h1,_,c,h2,_⟩:=ht; exact ⟨c,h2,h1.len⟩
 | sym w=>obtain ⟨_,h1,_,c,h2,_⟩:=ht; exact ⟨c,h2,h1.len⟩
 | num k=>obtain ⟨_,h1,_,c,h2,_⟩:=ht; exact ⟨c,h2,h1.len⟩
 | bool b=>exact ⟨_,ht.1,by have:=(List.getElem?_eq_some_iff.mp ht.2.1).1; have:=ht.2.2; lia⟩
 | chr c=>exact ⟨_,ht.1,ht.2.2.1.len⟩
 | str cs=>exact ⟨34,by have:=ht.1.ok 0 (by unfold cb; simp); simpa [cb] using this,by rw [ht.2.2]; exact ht.1.len⟩
theorem wc {l p s e:Nat} {T:List Nat} {t:Tk} (hn:10≤n) (hz:T.length≤100000) (hs:Skip T p s) (ht:DN T s e t) (hl:H[l]? = some (lxI T p)) (h:Q (cZ (.str t.word) t.val s e) (H.set l (lxI T e))):ac (BB W) n (.ref 1006) [.cell l] H Q:=by
 have hg:=wH (q:=s) hl
 have hg':=hg
 have hl':=hl
 obtain ⟨c,hc,_⟩:=E8 ht
 have hlt:=(List.getElem?_eq_some_iff.mp hc).1
 unfold lxI at hl hg
 refine ab fj (by tm_at "o") ?_
 tm_at "in"
 refine qF (by tm_at "o") hz hs hl' ?_
 tm_at "ww"
 refine al (beq_eq_false_iff_ne.mpr (by tm_at "o")) ?_
 tm_at "ww"
 refine bR (c:=c) (by tm_at "o") (by tm_at "o") (by rw [Int.toNat_natCast]; exact hc) ?_
 tm_at "ww"
 have eb:ae "()'`" = [40,41,39,96]:=by decide +kernel
 have ec:ae "," = [44]:=by decide +kernel
 have eq:ae "\"" = [34]:=by decide +kernel
 have eh:ae "#" = [35]:=by decide +kernel
 have word:dD.contains c = false→(decide (c ∈ ae "()'`") = false∧([c] == ae ",") = false∧([c] == ae "\"") = false∧([c] == ae "#") = false):=fun q=>by
  rw [eb,ec,eq,eh]
  unfold dD at q
  simp only [List.contains_cons,Bool.or_eq_false_iff,beq_eq_false_iff_ne,ne_eq] at q
  simp
  lia
 cases t with
 | op =>
  obtain ⟨h1,rfl⟩:=ht
  rw [hc] at h1; cases h1
  tm_at "ww"
  refine aT (e:=s + 1) (by tm_at "o") hg' ?_
  rw [cK]
  tm_at "ww"
  exact h
 | cl =>
  obtain ⟨h1,rfl⟩:=ht
  rw [hc] at h1; cases h1
  tm_at "ww"
  refine aT (e:=s + 1) (by tm_at "o") hg' ?_
  rw [cK]
  tm_at "ww"
  exact h
 | vop =>
  obtain ⟨h1,h2,rfl⟩:=ht
  rw [hc] at h1; cases h1
  tm_at "ww"
  refine z8 (by tm_at "o") hz h2 hg' ?_
  rw [cK]
  tm_at "ww"
  exact h
 | bool b =>
  obtain ⟨h1,h2,rfl⟩:=ht
  rw [hc] at h1; cases h1
  tm_at "ww"
  cases b with
  | true =>
   refine ED (by tm_at "o") hz h2 hg' ?_
   rw [cK]
   tm_at "ww"
   exact h
  | false =>
   refine FB (by tm_at "o") hz h2 hg' ?_
   rw [cK]
   tm_at "ww"
   exact h
 | chr d =>
  obtain ⟨h1,h2,h3,h4⟩:=ht
  rw [hc] at h1; cases h1
  tm_at "ww"
  refine zp (by tm_at "o") hz h2 h3 h4 hg' ?_
  rw [cK]
  tm_at "ww"
  exact h
 | str cs =>
  obtain ⟨h1,h2,rfl⟩:=ht
  have h3:T[s]? = some 34:=by have:=h1.ok 0 (by unfold cb; simp); simpa [cb] using this
  rw [hc] at h3; cases h3
  tm_at "ww"
  refine kM (by tm_at "o") hz h1 h2 hg' ?_
  rw [cK]
  tm_at "ww"
  exact h
 | dot =>
  obtain ⟨h1,h2,d,h3,h4⟩:=ht
  rw [hc] at h3; cases h3
  obtain ⟨w1,w2,w3,w4⟩:=word h4
  refine al w1 ?_
  tm_at "ww"
  refine al w2 ?_
  tm_at "ww"
  refine al w3 ?_
  tm_at "ww"
  refine al w4 ?_
  tm_at "ww"
  refine p7 (by tm_at "o") hz h1 h2 hg' ?_
  rw [cK]
  tm_at "ww"
  exact h
 | sym w =>
  obtain ⟨hm,h1,h2,d,h3,h4⟩:=ht
  rw [hc] at h3; cases h3
  obtain ⟨w1,w2,w3,w4⟩:=word h4
  refine al w1 ?_
  tm_at "ww"
  refine al w2 ?_
  tm_at "ww"
  refine al w3 ?_
  tm_at "ww"
  refine al w4 ?_
  tm_at "ww"
  refine pI (by tm_at "o") hz h1 h2 hm hg' ?_
  rw [cK]
  tm_at "ww"
  exact h
 | num k =>
  obtain ⟨⟨k0,k1⟩,h1,h2,d,h3,h4⟩:=ht
  rw [hc] at h3; cases h3
  obtain ⟨w1,w2,w3,w4⟩:=word h4
  refine al w1 ?_
  tm_at "ww"
  refine al w2 ?_
  tm_at "ww"
  refine al w3 ?_
  tm_at "ww"
  refine al w4 ?_
  tm_at "ww"
  refine pM (by tm_at "o") k0 k1 hz h1 h2 hg' ?_
  rw [cK]
  tm_at "ww"
  exact h
end
section
set_option bootstrap.genMatcherCode false
variable {n:Nat} {H:HS} {Q:AV→HS→Prop}
noncomputable def rdI (lx tb fr:Nat):Cell:=.inst 1164 [lv' "lexer" (.cell lx),lv' "table" (.cell tb),lv' "frames" (.cell fr)]
noncomputable abbrev cn:AV:=.val (.ref 195)
noncomputable def frI (w:List Nat) (st:Int) (k:Nat) (state:Int) (tail:AV):Cell:=.inst 1079 [lv' "word" (.str w),lv' "start" (.int st),lv' "things" (.cell k),lv' "state" (.int state),lv' "tail" tail]
theorem mN {w:AV} {st:Int} {k:Nat} (hn:2≤n) (h:Q (.cell H.length) (H++[.inst 1079 [lv' "word" w,lv' "start" (.int st),lv' "things" (.cell k),lv' "state" (.int 0),lv' "tail" cn]])):ac (BB W) n (.ref 1079) [w,.int st,.cell k] H Q:=by
 refine bX zT (by tm_at "o") ?_
 refine am je (by tm_at "o") ?_
 tm_at "in"
 simp only [aq]
 exact ⟨trivial,h⟩
theorem Dh {rd lx tb fr s e:Nat} {xs:List AV} (hn:4≤n) (hr:H[rd]? = some (rdI lx tb fr)) (hf:H[fr]? = some (.list xs)) (hz:xs.length≤1000) (h:Q (.bool true) ((H++[.list [],frI (ae "list") s H.length 0 cn]).set fr (.list (xs++[.cell (H.length + 1)])))):ac (BB W) n (.ref 1133) [.cell rd,cZ (.str (ae "(")) .none s e] H Q:=by
 unfold rdI at hr
 unfold frI at h
 refine ab cg (by tm_at "o") ?_
 tm_at "in"
 refine aR (aU ⟨by decide,?_⟩)
 tm_at "ww"
 refine mN (by tm_at "o") ?_
 simp only [List.length_append,List.length_cons,List.length_nil,List.append_assoc,List.nil_append,List.cons_append,Nat.zero_add]
 tm_at "ww"
 exact h
theorem zn {rd lx tb fr s e:Nat} {xs:List AV} (hn:4≤n) (hr:H[rd]? = some (rdI lx tb fr)) (hf:H[fr]? = some (.list xs)) (hz:xs.length≤1000) (h:Q (.bool true) ((H++[.list [],frI (ae "vector") s H.length 0 cn]).set fr (.list (xs++[.cell (H.length + 1)])))):ac (BB W) n (.ref 1133) [.cell rd,cZ (.str (ae "#(")) .none s e] H Q:=by
 unfold rdI at hr
 unfold frI at h
 refine ab cg (by tm_at "o") ?_
 tm_at "in"
 refine aR (aU ⟨by decide,?_⟩)
 tm_at "ww"
 refine mN (by tm_at "o") ?_
 simp only [List.length_append,List.length_cons,List.length_nil,List.append_assoc,List.nil_append,List.cons_append,Nat.zero_add]
 tm_at "ww"
 exact h
theorem dX {rd lx tb fr s e:Nat} {w:List Nat} {v:AV} (hn:1≤n) (hr:H[rd]? = some (rdI lx tb fr)) (h1:(w == ae "(") = false) (h2:(w == ae "#(") = false) (h3:[[39],[96],[44],[44,64]].all (fun x=>!(x == w)) = true) (h:Q (.bool false) H):ac (BB W) n (.ref 1133) [.cell rd,cZ (.str w) v s e] H Q:=by
 refine ab cg (by tm_at "o") ?_
 tm_at "in"
 refine al h1 ?_
 tm_at "ww"
 refine al h2 ?_
 tm_at "ww"
 refine nh ?_
 tm_at "ww"
 simp only [List.all_cons,Bool.and_eq_true,Bool.not_eq_true',List.all_nil,and_true] at h3
 obtain ⟨q1,q2,q3,q4⟩:=h3
 refine al q1 ?_
 tm_at "ww"
 refine al q2 ?_
 tm_at "ww"
 refine al q3 ?_
 tm_at "ww"
 refine al q4 ?_
 tm_at "ww"
 exact h
theorem fC {xs:List AV} {a:AV}:(xs++[a])[((-1:Int) + ((xs++[a]).length:Nat)).toNat]? = some a:=by
 rw [show ((-1:Int) + ((xs++[a]).length:Nat)).toNat = xs.length by simp; lia]
 simp
theorem Bi {rd lx tb fr s e f k:Nat} {st:Int} {xs ys:List AV} {tl v:AV} (hn:1≤n) (hr:H[rd]? = some (rdI lx tb fr)) (hf:H[fr]? = some (.list (xs++[.cell f]))) (hz:xs.length≤1000) (hi:H[f]? = some (frI (ae "list") st k 0 tl)) (hk:H[k]? = some (.list ys)) (hy:ys.isEmpty = false) (h:Q .none (H.set f (frI (ae "list") st k 1 tl))):ac (BB W) n (.ref 1140) [.cell rd,cZ (.str (ae ".")) v s e] H Q:=by
 unfold rdI at hr
 unfold frI at hi h
 refine ab oY (by tm_at "o") ?_
 tm_at "in"
 refine al (by simp) ?_
 tm_at "ww"
 refine fi (.cell hf) (by decide) (by simp; lia) (by decide) fC ?_
 tm_at "ww"
 refine al hy ?_
 tm_at "ww"
 exact h
theorem x8 {rd lx tb fr s e f k:Nat} {st:Int} {xs:List AV} {tl v:AV} (hn:3≤n) (hr:H[rd]? = some (rdI lx tb fr)) (hf:H[fr]? = some (.list (xs++[.cell f]))) (hz:xs.length≤1000) (hne:f ≠ fr) (hi:H[f]? = some (frI (ae "vector") st k 0 tl)) (h:Q (vcA (.cell k) .none) (H.set fr (.list xs))):ac (BB W) n (.ref 1147) [.cell rd,cZ (.str (ae ")")) v s e] H Q:=by
 unfold rdI at hr
 unfold frI at hi
 refine ab dT (by tm_at "o") ?_
 tm_at "in"
 refine al (by simp) ?_
 tm_at "ww"
 refine fi (.cell hf) (by decide) (by simp; lia) (by decide) fC ?_
 tm_at "ww"
 refine AE hf (by tm_at "o") ?_
 tm_at "ww"
 refine kA (by tm_at "o") ?_
 tm_at "ww"
 exact h
noncomputable def fG:List AV→AV→AV
 | [],e=>e
 | x :: xs,e=>prA x (fG xs e) .none
theorem sK {x tl:AV} {xs:List AV} (hn:3≤n) (hx:LS H x xs) (hz:xs.length≤1000) (h:Q (fG xs tl) H):ac (BB W) n (.ref 472) [x,tl] H Q:=by
 refine ab xM (by tm_at "o") ?_
 tm_at "in"
 refine cB (cJ ?_)
 tm_at "ww"
 refine Dp hx (by tm_at "o") ?_
 tm_at "ww"
 refine uv (by decide) (PyProof.noPylong_small (by decide)) ?_
 obtain ⟨r1,r2,r3⟩:=Ux (k:=xs.length) (by tm_at "o")
 refine ⟨_,_,_,rfl,r1,r2,fun i loc H2=>i≤xs.length∧H2 = H∧∃ o,loc = [lq "things" (some x),lq "tail" (some tl),lq "found" (some (fG (xs.drop (xs.length - i)) tl)),lq "place" o],xs.length,⟨Nat.zero_le _,rfl,none,by rw [Nat.sub_zero,List.drop_length]; rfl⟩,?_⟩
 rintro i loc _ ⟨hi,rfl,o,rfl⟩
 rw [r3]
 by_cases c1:i < xs.length
 ·rw [show aG ((xs.length:Int) - 1) (-1) xs.length i _ = some (some (.int ((xs.length:Int) - 1 + i * -1))) by unfold aG; rw [if_pos c1]]
  have hlt:xs.length - (i + 1) < xs.length:=by lia
  refine ⟨c1,_,.name (by tm_at "mem") (.tail (.tail (.tail .head))),?_⟩
  tm_at "ww"
  refine bn (a:=xs[xs.length - (i + 1)]) hx (by tm_at "o") (by tm_at "o") (by rw [show ((xs.length:Int) - 1 + i * -1).toNat = xs.length - (i + 1) by lia]; exact List.getElem?_eq_getElem hlt) ?_
  tm_at "ww"
  refine qA (by tm_at "o") ?_
  tm_at "ww"
  refine ⟨c1,rfl,some (.int ((xs.length:Int) - 1 + i * -1)),?_⟩
  rw [List.drop_eq_getElem_cons hlt,show xs.length - (i + 1) + 1 = xs.length - i by lia]
  rfl
 ·rw [show aG ((xs.length:Int) - 1) (-1) xs.length i _ = some none by unfold aG; rw [if_neg c1]]
  obtain rfl:i = xs.length:=by lia
  rw [Nat.sub_self,List.drop_zero]
  tm_at "ww"
  exact h
theorem u3 {rd lx tb fr s e f k:Nat} {st sta:Int} {xs ys:List AV} {tl v:AV} (hn:4≤n) (hr:H[rd]? = some (rdI lx tb fr)) (hf:H[fr]? = some (.list (xs++[.cell f]))) (hz:xs.length≤1000) (hs:sta = 0 ∨ sta = 2) (hi:H[f]? = some (frI (ae "list") st k sta tl)) (hk:H[k]? = some (.list ys)) (hkf:k ≠ fr) (hy:ys.length≤1000) (ht:aZ tl = true) (h:Q (fG ys tl) (H.set fr (.list xs))):ac (BB W) n (.ref 1147) [.cell rd,cZ (.str (ae ")")) v s e] H Q:=by
 unfold rdI at hr
 unfold frI at hi
 have hk':(H.set fr (.list xs))[k]? = some (.list ys):=ao (Ne.symm hkf) hk
 refine ab dT (by tm_at "o") ?_
 tm_at "in"
 refine al (by simp) ?_
 tm_at "ww"
 refine fi (.cell hf) (by decide) (by simp; lia) (by decide) fC ?_
 tm_at "ww"
 refine al (by rcases hs with rfl | rfl <;> rfl) ?_
 tm_at "ww"
 refine AE hf (by tm_at "o") ?_
 tm_at "ww"
 refine sK (by tm_at "o") (.cell hk') hy ?_
 tm_at "ww"
 exact h
theorem AX {rd lx tb fr s e i j:Nat} {G:Gs} {w:List Nat} (hn:4≤n) (hr:H[rd]? = some (rdI lx tb fr)) (ht:H[tb]? = some (.inst 282 [lv' "rows" (.cell i),lv' "by_text" (.cell j)])) (hs:SymT H i j G) (hw:w ∈ eX)
  (h:∀ k G' H',GLe G G'→G'.lookup w = some k→SymT H' i j G'→Ext [i,j] H H'→(G.lookup w ≠ none→H' = H∧G' = G)→Q (.cell k) H'):ac (BB W) n (.ref 1154) [.cell rd,cZ (.str (ae "symbol")) (.str w) s e] H Q:=by
 unfold rdI at hr
 refine ab fA (by tm_at "o") ?_
 tm_at "in"
 refine kD (by tm_at "o") ht hs hw fun k G' H' a b c d e'=>?_
 tm_at "ww"
 exact h k G' H' a b c d e'
theorem iu {rd lx tb fr s e:Nat} {w:List Nat} {v:AV} (hn:1≤n) (hr:H[rd]? = some (rdI lx tb fr)) (hw:(w == ae "symbol") = false) (hv:aZ v = true) (h:Q v H):ac (BB W) n (.ref 1154) [.cell rd,cZ (.str w) v s e] H Q:=by
 refine ab fA (by tm_at "o") ?_
 tm_at "in"
 refine al hw ?_
 tm_at "ww"
 exact h
theorem gH {rd lx tb fr:Nat} {v st:AV} (hn:1≤n) (hr:H[rd]? = some (rdI lx tb fr)) (hf:H[fr]? = some (.list [])) (h:Q (.bool true) H):ac (BB W) n (.ref 1161) [.cell rd,v,st] H Q:=by
 unfold rdI at hr
 refine ab br (by tm_at "o") ?_
 tm_at "in"
 refine bc ?_
 tm_at "ww"
 refine ⟨rfl,?_⟩
 tm_at "ww"
 exact h
theorem qS {rd lx tb fr:Nat} {v:AV} (hn:1≤n) (hr:H[rd]? = some (rdI lx tb fr)) (hf:H[fr]? = some (.list [])) (h:Q v H):ac (BB W) n (.ref 1119) [.cell rd,v] H Q:=by
 unfold rdI at hr
 refine ab nH (by tm_at "o") ?_
 tm_at "in"
 refine bc ?_
 tm_at "ww"
 refine ⟨rfl,?_⟩
 tm_at "ww"
 exact h
theorem nG {rd lx tb fr p:Nat} {T:List Nat} (hn:1≤n) (hr:H[rd]? = some (rdI lx tb fr)) (hl:H[lx]? = some (lxI T p)) (h:Q (.int (p:Int)) H):ac (BB W) n (.ref 1105) [.cell rd] H Q:=by
 unfold rdI at hr
 unfold lxI at hl
 refine ab lU (by tm_at "o") ?_
 tm_at "in"
 exact h
theorem fq {rd lx tb fr f k:Nat} {w:List Nat} {v sa tl:AV} {st:Int} {xs ys:List AV} (hn:1≤n) (hr:H[rd]? = some (rdI lx tb fr)) (hf:H[fr]? = some (.list (xs++[.cell f]))) (hz:xs.length≤1000) (hi:H[f]? = some (frI w st k 0 tl)) (hw:(w == ae "quotation") = false) (hk:H[k]? = some (.list ys)) (hy:ys.length≤1000) (h:Q (.bool false) (H.set k (.list (ys++[v])))):ac (BB W) n (.ref 1161) [.cell rd,v,sa] H Q:=by
 unfold rdI at hr
 unfold frI at hi
 have hlen:((xs++[AV.cell f]).length:Int) = xs.length + 1:=by simp
 refine ab br (by tm_at "o") ?_
 tm_at "in"
 rw [hlen]
 refine bc ?_
 tm_at "ww"
 refine b7 (decide_eq_true (by tm_at "o")) ?_
 tm_at "ww"
 refine bn (a:=.cell f) (.cell hf) (by tm_at "o") (by tm_at "o") (by rw [show ((xs.length:Int) + 1 - 1).toNat = xs.length by lia]; simp) ?_
 tm_at "ww"
 refine al hw ⟨rfl,?_⟩
 tm_at "ww"
 refine bc ?_
 tm_at "ww"
 refine ⟨decide_eq_false (by tm_at "o"),?_⟩
 tm_at "ww"
 refine fi (.cell hf) (by decide) (by simp; lia) (by decide) fC ?_
 tm_at "ww"
 exact h
theorem nw {rd lx tb fr f k:Nat} {w:List Nat} {v sa tl:AV} {st:Int} {xs:List AV} (hn:1≤n) (hr:H[rd]? = some (rdI lx tb fr)) (hf:H[fr]? = some (.list (xs++[.cell f]))) (hz:xs.length≤1000) (hi:H[f]? = some (frI w st k 1 tl)) (hw:(w == ae "quotation") = false) (h:Q (.bool false) (H.set f (frI w st k 2 v))):ac (BB W) n (.ref 1161) [.cell rd,v,sa] H Q:=by
 unfold rdI at hr
 unfold frI at hi h
 have hlen:((xs++[AV.cell f]).length:Int) = xs.length + 1:=by simp
 refine ab br (by tm_at "o") ?_
 tm_at "in"
 rw [hlen]
 refine bc ?_
 tm_at "ww"
 refine b7 (decide_eq_true (by tm_at "o")) ?_
 tm_at "ww"
 refine bn (a:=.cell f) (.cell hf) (by tm_at "o") (by tm_at "o") (by rw [show ((xs.length:Int) + 1 - 1).toNat = xs.length by lia]; simp) ?_
 tm_at "ww"
 refine al hw ⟨rfl,?_⟩
 tm_at "ww"
 refine bc ?_
 tm_at "ww"
 refine ⟨decide_eq_false (by tm_at "o"),?_⟩
 tm_at "ww"
 refine fi (.cell hf) (by decide) (by simp; lia) (by decide) fC ?_
 tm_at "ww"
 rw [List.set_set]
 exact h
end
section
set_option bootstrap.genMatcherCode false
variable {n:Nat} {H:HS} {Q:AV→HS→Prop}
inductive Lf | whole (k:Int) | truth (b:Bool) | sym (w:List Nat) | str (cs:List Nat) | chr (c:Nat)
inductive Tr | leaf (l:Lf) | list (ts:List Tr) (e:Option Lf) | vec (ts:List Tr)
noncomputable def CE:List Nat:=[97,34,92,32,10,40,59]
noncomputable def v6:List Nat:=[97,32,10,40,59,120,955]
noncomputable def Lf.ok:Lf→Prop
 | .whole k=>-20≤k∧k < 20
 | .truth _=>True
 | .sym w=>w ∈ eX
 | .str cs=>cs.length≤3∧∀ c ∈ cs,c ∈ CE
 | .chr c=>c ∈ v6
noncomputable def Lf.tk:Lf→Tk
 | .whole k=>.num k | .truth b=>.bool b | .sym w=>.sym w | .str cs=>.str cs | .chr c=>.chr c
noncomputable def LfD (G:Gs):Lf→AV→Prop
 | .whole k,v=>v = .int k
 | .truth b,v=>v = .bool b
 | .sym w,v=>∃ k,v = .cell k∧G.lookup w = some k
 | .str cs,v=>v = txA cs .none
 | .chr c,v=>v = chA c
noncomputable def lT (G:Gs):Option Lf→AV→Prop
 | none,v=>v = cn
 | some l,v=>LfD G l v
noncomputable def LSz (Z:List Nat) (H:HS) (x:AV) (xs:List AV):Prop:=x = .lst xs ∨ ∃ k,x = .cell k∧k ∈ Z∧H[k]? = some (.list xs)
theorem LSz.ls {Z:List Nat} {x:AV} {xs:List AV} (h:LSz Z H x xs):LS H x xs:=by
 rcases h with rfl | ⟨k,rfl,_,e⟩
 ·exact .lst
 ·exact .cell e
inductive DatR (Z:List Nat) (H:HS) (G:Gs):Tr→AV→Prop
 | leaf {l:Lf} {v:AV}:LfD G l v→DatR Z H G (.leaf l) v
 | list {ts:List Tr} {e:Option Lf} {vs:List AV} {ev:AV}:ts.length = vs.length→(∀ (i:Nat) (t:Tr) (v:AV),ts[i]? = some t→vs[i]? = some v→DatR Z H G t v)→lT G e ev→DatR Z H G (.list ts e) (fG vs ev)
 | vec {ts:List Tr} {vs:List AV} {x m:AV}:LSz Z H x vs→vs.length≤1000→ts.length = vs.length→(∀ (i:Nat) (t:Tr) (v:AV),ts[i]? = some t→vs[i]? = some v→DatR Z H G t v)→DatR Z H G (.vec ts) (vcA x m)
theorem LfD.mono {G G':Gs} (h:GLe G G'):∀ {l:Lf} {v:AV},LfD G l v→LfD G' l v
 | .whole _,_,q=>q
 | .truth _,_,q=>q
 | .sym _,_,⟨k,e,q⟩=>⟨k,e,h _ _ q⟩
 | .str _,_,q=>q
 | .chr _,_,q=>q
theorem lT.mono {G G':Gs} (h:GLe G G'):∀ {e:Option Lf} {v:AV},lT G e v→lT G' e v
 | none,_,q=>q
 | some _,_,q=>LfD.mono h q
theorem DatR.mono {Z Z':List Nat} {H H':HS} {G G':Gs} (hz:∀ z ∈ Z,z ∈ Z'∧∀ c:Cell,H[z]? = some c→H'[z]? = some c) (hg:GLe G G') {t:Tr} {v:AV} (h:DatR Z H G t v):DatR Z' H' G' t v:=by
 induction h with
 | leaf h=>exact .leaf (h.mono hg)
 | list hl _ he ih=>exact .list hl ih (he.mono hg)
 | vec hx hk hl _ ih =>
  refine .vec ?_ hk hl ih
  rcases hx with rfl | ⟨k,rfl,m,e⟩
  ·exact .inl rfl
  ·exact .inr ⟨k,rfl,(hz k m).1,(hz k m).2 _ e⟩
noncomputable def hF (R:Tr→AV→Prop) (ts:List Tr) (vs:List AV):Prop:=ts.length = vs.length∧∀ (i:Nat) (t:Tr) (v:AV),ts[i]? = some t→vs[i]? = some v→R t v
theorem hF.nil {R:Tr→AV→Prop}:hF R [] []:=⟨rfl,fun i t v h=>by simp at h⟩
theorem hF.snoc {R:Tr→AV→Prop} {ts:List Tr} {vs:List AV} {t:Tr} {v:AV} (h:hF R ts vs) (q:R t v):hF R (ts++[t]) (vs++[v]):=by
 refine ⟨by simp [h.1],fun i t' v' h1 h2=>?_⟩
 rcases Nat.lt_or_ge i ts.length with hi | hi
 ·rw [List.getElem?_append_left hi] at h1
  rw [List.getElem?_append_left (by rw [← h.1]; exact hi)] at h2
  exact h.2 i _ _ h1 h2
 ·rw [List.getElem?_append_right hi] at h1
  rw [List.getElem?_append_right (by rw [← h.1]; exact hi)] at h2
  have e1:i - ts.length = 0:=by
   rcases Nat.eq_zero_or_pos (i - ts.length) with e | e
   ·exact e
   ·rw [List.getElem?_eq_none (by simp; lia)] at h1; cases h1
  rw [e1] at h1
  rw [← h.1,e1] at h2
  cases h1; cases h2
  exact q
theorem hF.mono {R R':Tr→AV→Prop} {ts:List Tr} {vs:List AV} (h:hF R ts vs) (k:∀ t v,R t v→R' t v):hF R' ts vs:=⟨h.1,fun i t v a b=>k t v (h.2 i t v a b)⟩
structure AFr where
 vec:Bool
 done:List Tr
 st:Nat
 e:Option Lf
noncomputable def AFr.tree (f:AFr):Tr:=if f.vec = true then .vec f.done else .list f.done f.e
inductive Run:List AFr→List Tk→Tr→Prop
 | op {S:List AFr} {ks:List Tk} {d:Tr}:Run (⟨false,[],0,none⟩ :: S) ks d→Run S (.op :: ks) d
 | vop {S:List AFr} {ks:List Tk} {d:Tr}:Run (⟨true,[],0,none⟩ :: S) ks d→Run S (.vop :: ks) d
 | dot {S:List AFr} {ks:List Tk} {d:Tr} {ts:List Tr}:ts ≠ []→Run (⟨false,ts,1,none⟩ :: S) ks d→Run (⟨false,ts,0,none⟩ :: S) (.dot :: ks) d
 | leaf0 {l:Lf}:l.ok→Run [] [l.tk] (.leaf l)
 | leafP {S:List AFr} {ks:List Tk} {d:Tr} {l:Lf} {v:Bool} {ts:List Tr}:l.ok→Run (⟨v,ts++[.leaf l],0,none⟩ :: S) ks d→Run (⟨v,ts,0,none⟩ :: S) (l.tk :: ks) d
 | leafT {S:List AFr} {ks:List Tk} {d:Tr} {l:Lf} {ts:List Tr}:l.ok→Run (⟨false,ts,2,some l⟩ :: S) ks d→Run (⟨false,ts,1,none⟩ :: S) (l.tk :: ks) d
 | cl0 {f:AFr}:(f.st = 0 ∨ f.st = 2)→(f.vec = true→f.st = 0)→Run [f] [.cl] f.tree
 | clP {S:List AFr} {ks:List Tk} {d:Tr} {f:AFr} {v:Bool} {ts:List Tr}:(f.st = 0 ∨ f.st = 2)→(f.vec = true→f.st = 0)→Run (⟨v,ts++[f.tree],0,none⟩ :: S) ks d→Run (f :: ⟨v,ts,0,none⟩ :: S) (.cl :: ks) d
end
section
set_option bootstrap.genMatcherCode false
variable {n:Nat} {H:HS} {Q:AV→HS→Prop}
structure CFr where
 a:AFr
 f:Nat
 k:Nat
 st:Nat
 xs:List AV
 tail:AV
noncomputable def fw (v:Bool):List Nat:=if v = true then ae "vector" else ae "list"
noncomputable def CFr.cell (c:CFr):Cell:=frI (fw c.a.vec) c.st c.k c.a.st c.tail
noncomputable def tbI (ri bj:Nat):Cell:=.inst 282 [lv' "rows" (.cell ri),lv' "by_text" (.cell bj)]
structure FsR (H:HS) (Z:List Nat) (G:Gs) (c:CFr):Prop where
 c1:H[c.f]? = some c.cell
 c2:H[c.k]? = some (.list c.xs)
 c3:hF (DatR Z H G) c.a.done c.xs
 c4:lT G c.a.e c.tail
structure RS (H:HS) (rd lx tb fr ri bj:Nat) (T:List Nat) (p:Nat) (Z:List Nat) (G:Gs) (S:List CFr):Prop where
 rd_:H[rd]? = some (rdI lx tb fr)
 lx_:H[lx]? = some (lxI T p)
 tb_:H[tb]? = some (tbI ri bj)
 sy:SymT H ri bj G
 fr_:H[fr]? = some (.list (S.reverse.map fun c=>.cell c.f))
 fs:∀ c ∈ S,FsR H Z G c
 zs:∀ z ∈ Z,∃ xs,H[z]? = some (.list xs)
 nd:(ri :: fr :: (S.map (fun zz=>zz.k)++Z)).Nodup
 nf:(S.map (fun zz=>zz.f)).Nodup
theorem SymT.keep {H':HS} {i j:Nat} {G:Gs} (h:SymT H i j G) (k:∀ (x:Nat) (c:Cell),H[x]? = some c→((∃ xs,c = .list xs∧x = i) ∨ (∃ kv,c = .dict kv) ∨ ∃ a b,c = .inst 219 [a,b])→H'[x]? = some c):SymT H' i j G:=by
 obtain ⟨⟨xs,e1,l1⟩,e2,e3,e4,e5⟩:=h
 exact ⟨⟨xs,k _ _ e1 (.inl ⟨xs,rfl,rfl⟩),l1⟩,k _ _ e2 (.inr (.inl ⟨_,rfl⟩)),fun g hg=>by obtain ⟨a,e⟩:=e3 g hg; exact ⟨a,k _ _ e (.inr (.inr ⟨_,_,rfl⟩))⟩,e4,e5⟩
theorem RS.lex {rd lx tb fr ri bj p e:Nat} {T:List Nat} {Z:List Nat} {G:Gs} {S:List CFr} (R:RS H rd lx tb fr ri bj T p Z G S):RS (H.set lx (lxI T e)) rd lx tb fr ri bj T e Z G S:=by
 have hk:∀ (x:Nat) (c:Cell),H[x]? = some c→lxI T p ≠ c→(H.set lx (lxI T e))[x]? = some c:=fun x c h q=>ao (aF R.lx_ h q) h
 have hl:∀ (x:Nat) (xs:List AV),H[x]? = some (.list xs)→(H.set lx (lxI T e))[x]? = some (.list xs):=fun x xs h=>hk x _ h (by unfold lxI; intro q; cases q)
 refine ⟨hk _ _ R.rd_ (by unfold lxI rdI; intro q; cases q),aj R.lx_,hk _ _ R.tb_ (by unfold lxI tbI; intro q; cases q),R.sy.keep fun x c h q=>hk x c h ?_,hl _ _ R.fr_,fun c hc=>?_,fun z hz=>?_,R.nd,R.nf⟩
 ·unfold lxI
  rcases q with ⟨xs,rfl,_⟩ | ⟨kv,rfl⟩ | ⟨a,b,rfl⟩ <;> (intro q; cases q)
 ·have r:=R.fs c hc
  refine ⟨hk _ _ r.c1 (by unfold lxI CFr.cell frI; intro q; cases q),hl _ _ r.c2,r.c3.mono fun t v h=>h.mono (fun z hz=>⟨hz,fun c hc=>?_⟩) fun zz zz q=>q,r.c4⟩
  obtain ⟨xs,e⟩:=R.zs z hz
  rw [e] at hc; cases hc
  exact hl _ _ e
 ·obtain ⟨xs,e⟩:=R.zs z hz
  exact ⟨xs,hl _ _ e⟩
theorem RS.symb {H':HS} {rd lx tb fr ri bj p:Nat} {T:List Nat} {Z:List Nat} {G G':Gs} {S:List CFr} (R:RS H rd lx tb fr ri bj T p Z G S) (hg:GLe G G') (hs:SymT H' ri bj G') (he:Ext [ri,bj] H H'):RS H' rd lx tb fr ri bj T p Z G' S:=by
 obtain ⟨⟨xr,er,_⟩,ed,_,_,_⟩:=R.sy
 have hk:∀ (x:Nat) (c:Cell),H[x]? = some c→(∀ xs,c ≠ .list xs)→(∀ kv,c ≠ .dict kv)→H'[x]? = some c:=fun x c h q1 q2=>he.get (by
  intro q
  rcases List.mem_cons.mp q with rfl | q
  ·rw [er] at h; cases h; exact q1 _ rfl
  ·obtain rfl:=List.mem_singleton.mp q
   rw [ed] at h; cases h; exact q2 _ rfl) h
 have hl:∀ (x:Nat) (xs:List AV),H[x]? = some (.list xs)→x ≠ ri→H'[x]? = some (.list xs):=fun x xs h q1=>he.get (by
  intro q
  rcases List.mem_cons.mp q with q | q
  ·exact q1 q
  ·obtain rfl:=List.mem_singleton.mp q
   rw [ed] at h; cases h) h
 have nd:=List.nodup_cons.mp R.nd
 have nr:∀ x,x ∈ fr :: (S.map (fun zz=>zz.k)++Z)→x ≠ ri:=fun x hx q=>nd.1 (q ▸ hx)
 have zz:∀ z ∈ Z,z ≠ ri:=fun z hz=>nr z (.tail _ (List.mem_append_right _ hz))
 refine ⟨hk _ _ R.rd_ (by unfold rdI; intro _ q; cases q) (by unfold rdI; intro _ q; cases q),hk _ _ R.lx_ (by unfold lxI; intro _ q; cases q) (by unfold lxI; intro _ q; cases q),hk _ _ R.tb_ (by unfold tbI; intro _ q; cases q) (by unfold tbI; intro _ q; cases q),hs,hl _ _ R.fr_ (nr _ (.head _)),fun c hc=>?_,fun z hz=>?_,R.nd,R.nf⟩
 ·have r:=R.fs c hc
  refine ⟨hk _ _ r.c1 (by unfold CFr.cell frI; intro _ q; cases q) (by unfold CFr.cell frI; intro _ q; cases q),hl _ _ r.c2 (nr _ (.tail _ (List.mem_append_left _ (List.mem_map.mpr ⟨c,hc,rfl⟩)))),r.c3.mono fun t v h=>h.mono (fun z hz=>⟨hz,fun c hc=>?_⟩) hg,r.c4.mono hg⟩
  obtain ⟨xs,e⟩:=R.zs z hz
  rw [e] at hc; cases hc
  exact hl _ _ e (zz z hz)
 ·obtain ⟨xs,e⟩:=R.zs z hz
  exact ⟨xs,hl _ _ e (zz z hz)⟩
structure ButR (H':HS) (rd lx tb fr ri bj i:Nat) (T:List Nat) (p:Nat) (Z:List Nat) (G:Gs) (S:List CFr):Prop where
 b1:H'[rd]? = some (rdI lx tb fr)
 b2:H'[lx]? = some (lxI T p)
 b3:H'[tb]? = some (tbI ri bj)
 b4:SymT H' ri bj G
 b5:∀ c ∈ S,H'[c.f]? = some c.cell∧(c.k ≠ i→H'[c.k]? = some (.list c.xs))∧hF (DatR Z H' G) c.a.done c.xs
 b6:∀ z ∈ Z,∃ xs,H'[z]? = some (.list xs)
theorem RS.but {H':HS} {rd lx tb fr ri bj p i:Nat} {T:List Nat} {Z:List Nat} {G:Gs} {S:List CFr} {c0:List AV} (R:RS H rd lx tb fr ri bj T p Z G S) (h0:H[i]? = some (.list c0)) (hk:∀ (x:Nat) (c:Cell),H[x]? = some c→x ≠ i→H'[x]? = some c) (hri:i ≠ ri) (hzi:i ∉ Z) :
  ButR H' rd lx tb fr ri bj i T p Z G S:=by
 have hn:∀ (x:Nat) (c:Cell),H[x]? = some c→(∀ xs,c ≠ .list xs)→H'[x]? = some c:=fun x c h q=>hk x c h (by rintro rfl; rw [h0] at h; cases h; exact q _ rfl)
 refine ⟨hn _ _ R.rd_ (by unfold rdI; intro _ q; cases q),hn _ _ R.lx_ (by unfold lxI; intro _ q; cases q),hn _ _ R.tb_ (by unfold tbI; intro _ q; cases q),R.sy.keep fun x c h q=>?_,fun c hc=>?_,fun z hz=>?_⟩
 ·rcases q with ⟨xs,rfl,rfl⟩ | ⟨kv,rfl⟩ | ⟨a,b,rfl⟩
  ·exact hk _ _ h (Ne.symm hri)
  ·exact hn _ _ h (by intro _ q; cases q)
  ·exact hn _ _ h (by intro _ q; cases q)
 ·have r:=R.fs c hc
  exact ⟨hn _ _ r.c1 (by unfold CFr.cell frI; intro _ q; cases q),fun q=>hk _ _ r.c2 q,r.c3.mono fun t v h=>h.mono (fun z hz=>⟨hz,fun c hc=>hk _ _ hc (fun q=>hzi (q ▸ hz))⟩) fun zz zz q=>q⟩
 ·obtain ⟨xs,e⟩:=R.zs z hz
  exact ⟨xs,hk _ _ e fun q=>hzi (q ▸ hz)⟩
structure NdR (fr ri:Nat) (Z:List Nat) (S:List CFr):Prop where
 d1:ri ≠ fr
 d2:∀ c ∈ S,c.k ≠ ri∧c.k ≠ fr∧c.k ∉ Z
 d3:∀ z ∈ Z,z ≠ ri∧z ≠ fr
 d4:(S.map (fun zz=>zz.k)).Nodup
theorem RS.nd' {rd lx tb fr ri bj p:Nat} {T:List Nat} {Z:List Nat} {G:Gs} {S:List CFr} (R:RS H rd lx tb fr ri bj T p Z G S):NdR fr ri Z S:=by
 have h:=R.nd
 simp only [List.nodup_cons,List.mem_cons,List.mem_append,not_or,List.nodup_append] at h
 obtain ⟨⟨h1,h2,h3⟩,⟨h4,h5⟩,h6,h7,h8⟩:=h
 refine ⟨h1,fun c hc=>⟨fun q=>h2 (q ▸ List.mem_map.mpr ⟨c,hc,rfl⟩),fun q=>h4 (q ▸ List.mem_map.mpr ⟨c,hc,rfl⟩),fun q=>h8 _ (List.mem_map.mpr ⟨c,hc,rfl⟩) _ q rfl⟩,fun z hz=>⟨fun q=>h3 (q ▸ hz),fun q=>h5 (q ▸ hz)⟩,h6⟩
theorem RS.open {rd lx tb fr ri bj p s:Nat} {v:Bool} {T:List Nat} {Z:List Nat} {G:Gs} {S:List CFr} (R:RS H rd lx tb fr ri bj T p Z G S) :
  RS ((H++[.list [],frI (fw v) s H.length 0 cn]).set fr (.list (S.reverse.map (fun c=>.cell c.f)++[.cell (H.length + 1)]))) rd lx tb fr ri bj T p Z G (⟨⟨v,[],0,none⟩,H.length + 1,H.length,s,[],cn⟩ :: S):=by
 have N:=R.nd'
 have hfr:=ar R.fr_
 have hn:∀ i c,fr < H.length + i→[Cell.list [],frI (fw v) s H.length 0 cn][i]? = some c→((H++[.list [],frI (fw v) s H.length 0 cn]).set fr (.list (S.reverse.map (fun c=>.cell c.f)++[.cell (H.length + 1)])))[H.length + i]? = some c:=fun i c h e =>
  ao (Nat.ne_of_lt h) (by rw [List.getElem?_append_right (Nat.le_add_right _ _),Nat.add_sub_cancel_left]; exact e)
 have g2:=hn 1 _ (Nat.lt_succ_of_lt hfr) rfl
 have g3:=hn 0 _ hfr rfl
 have g0:∀ (x:Nat) (c:Cell),H[x]? = some c→x ≠ fr→((H++[.list [],frI (fw v) s H.length 0 cn]).set fr (.list (S.reverse.map (fun c=>.cell c.f)++[.cell (H.length + 1)])))[x]? = some c:=fun x c h q=>ao (Ne.symm q) (aw h)
 have g1:=aj (c:=.list (S.reverse.map (fun c=>.cell c.f)++[.cell (H.length + 1)])) (aw (J:=[.list [],frI (fw v) s H.length 0 cn]) R.fr_)
 clear hn
 generalize (H++[.list [],frI (fw v) s H.length 0 cn]).set fr (.list (S.reverse.map (fun c=>.cell c.f)++[.cell (H.length + 1)])) = H' at g0 g1 g2 g3 ⊢
 have B:=R.but R.fr_ g0 (Ne.symm N.d1) (fun q=>(N.d3 _ q).2 rfl)
 refine ⟨B.b1,B.b2,B.b3,B.b4,by rw [g1]; simp,fun c hc=>?_,B.b6,?_,?_⟩
 ·rcases List.mem_cons.mp hc with rfl | hc
  ·exact ⟨g2,g3,.nil,rfl⟩
  ·have b:=B.b5 c hc
   exact ⟨b.1,b.2.1 (N.d2 c hc).2.1,b.2.2,(R.fs c hc).c4⟩
 ·have hlt:∀ x,x ∈ ri :: fr :: (S.map (fun zz=>zz.k)++Z)→x < H.length:=fun x hx=>by
   rcases List.mem_cons.mp hx with rfl | hx
   ·obtain ⟨⟨xr,er,_⟩,_⟩:=R.sy
    exact ar er
   rcases List.mem_cons.mp hx with rfl | hx
   ·exact hfr
   rcases List.mem_append.mp hx with hx | hx
   ·obtain ⟨c,hc,rfl⟩:=List.mem_map.mp hx
    exact ar (R.fs c hc).c2
   ·obtain ⟨xs,e⟩:=R.zs x hx
    exact ar e
  have hno:H.length ∉ ri :: fr :: (S.map (fun zz=>zz.k)++Z):=fun q=>Nat.lt_irrefl _ (hlt _ q)
  have hp:List.Perm (H.length :: ri :: fr :: (S.map (fun zz=>zz.k)++Z)) (ri :: fr :: H.length :: (S.map (fun zz=>zz.k)++Z)):=(List.Perm.swap _ _ _).trans (.cons _ (List.Perm.swap _ _ _))
  exact hp.nodup_iff.mp (List.nodup_cons.mpr ⟨hno,R.nd⟩)
 ·refine List.nodup_cons.mpr ⟨fun q=>?_,R.nf⟩
  obtain ⟨c,hc,e⟩:=List.mem_map.mp q
  exact absurd (ar (R.fs c hc).c1) (by rw [show c.f = H.length + 1 from e]; exact Nat.not_lt.mpr (Nat.le_succ _))
theorem RS.push {rd lx tb fr ri bj p:Nat} {T:List Nat} {Z:List Nat} {G:Gs} {S:List CFr} {c:CFr} {t:Tr} {v:AV} (R:RS H rd lx tb fr ri bj T p Z G (c :: S)) (ht:DatR Z H G t v) :
  RS (H.set c.k (.list (c.xs++[v]))) rd lx tb fr ri bj T p Z G (⟨⟨c.a.vec,c.a.done++[t],c.a.st,c.a.e⟩,c.f,c.k,c.st,c.xs++[v],c.tail⟩ :: S):=by
 have N:=R.nd'
 have r:=R.fs c (.head _)
 have e:=N.d2 c (.head _)
 have g1:(H.set c.k (.list (c.xs++[v])))[c.k]? = _:=aj r.c2
 have hk:∀ (x:Nat) (d:Cell),H[x]? = some d→x ≠ c.k→(H.set c.k (.list (c.xs++[v])))[x]? = some d:=fun x d h q=>ao (Ne.symm q) h
 generalize H.set c.k (.list (c.xs++[v])) = H' at hk g1 ⊢
 have B:=R.but r.c2 hk e.1 e.2.2
 refine ⟨B.b1,B.b2,B.b3,B.b4,by have hfr:=hk _ _ R.fr_ (Ne.symm e.2.1); rw [List.reverse_cons,List.map_append] at hfr ⊢; exact hfr,fun x hx=>?_,B.b6,R.nd,R.nf⟩
 rcases List.mem_cons.mp hx with rfl | hx
 ·have q:=B.b5 c (.head _)
  exact ⟨q.1,g1,q.2.2.snoc (ht.mono (fun z hz=>⟨hz,fun d hd=>hk _ _ hd fun q=>e.2.2 (q ▸ hz)⟩) fun zz zz q=>q),r.c4⟩
 ·have q:=B.b5 x (.tail _ hx)
  exact ⟨q.1,q.2.1 fun q=>(List.nodup_cons.mp N.d4).1 (List.mem_map.mpr ⟨x,hx,q⟩),q.2.2,(R.fs x (.tail _ hx)).c4⟩
theorem RS.turn {rd lx tb fr ri bj p st':Nat} {T:List Nat} {Z:List Nat} {G:Gs} {S:List CFr} {c:CFr} {e':Option Lf} {tl:AV} (R:RS H rd lx tb fr ri bj T p Z G (c :: S)) (he:lT G e' tl) :
  RS (H.set c.f (frI (fw c.a.vec) c.st c.k st' tl)) rd lx tb fr ri bj T p Z G (⟨⟨c.a.vec,c.a.done,st',e'⟩,c.f,c.k,c.st,c.xs,tl⟩ :: S):=by
 have r:=R.fs c (.head _)
 have g1:(H.set c.f (frI (fw c.a.vec) c.st c.k st' tl))[c.f]? = _:=aj r.c1
 have g0:∀ (x:Nat) (d:Cell),H[x]? = some d→c.f ≠ x→(H.set c.f (frI (fw c.a.vec) c.st c.k st' tl))[x]? = some d:=fun x d h q=>ao q h
 generalize H.set c.f (frI (fw c.a.vec) c.st c.k st' tl) = H' at g0 g1 ⊢
 have hk:∀ (x:Nat) (d:Cell),H[x]? = some d→(∀ fs,d ≠ .inst 1079 fs)→H'[x]? = some d:=fun x d h q=>g0 x d h (aF r.c1 h (fun e=>q _ e.symm))
 have hl:∀ (x:Nat) (xs:List AV),H[x]? = some (.list xs)→H'[x]? = some (.list xs):=fun x xs h=>hk x _ h (by intro _ q; cases q)
 have hz:∀ z ∈ Z,∃ xs,H[z]? = some (.list xs)∧H'[z]? = some (.list xs):=fun z h=>let ⟨xs,e⟩:=R.zs z h; ⟨xs,e,hl _ _ e⟩
 have hd:∀ (t:Tr) (v:AV),DatR Z H G t v→DatR Z H' G t v:=fun t v h=>h.mono (fun z h=>⟨h,fun d hd=>by
  obtain ⟨xs,e,e'⟩:=hz z h
  rw [e] at hd; cases hd
  exact e'⟩) fun zz zz q=>q
 refine ⟨hk _ _ R.rd_ (by unfold rdI; intro _ q; cases q),hk _ _ R.lx_ (by unfold lxI; intro _ q; cases q),hk _ _ R.tb_ (by unfold tbI; intro _ q; cases q),R.sy.keep fun x d h q=>hk x d h ?_,by have hfr:=hl _ _ R.fr_; rw [List.reverse_cons,List.map_append] at hfr ⊢; exact hfr,fun x hx=>?_,fun z h=>let ⟨xs,_,e⟩:=hz z h; ⟨xs,e⟩,R.nd,R.nf⟩
 ·rcases q with ⟨xs,rfl,_⟩ | ⟨kv,rfl⟩ | ⟨a,b,rfl⟩ <;> (intro _ q; cases q)
 ·rcases List.mem_cons.mp hx with rfl | hx
  ·exact ⟨g1,hl _ _ r.c2,r.c3.mono hd,he⟩
  ·have q:=R.fs x (.tail _ hx)
   exact ⟨g0 _ _ q.c1 (fun q=>(List.nodup_cons.mp R.nf).1 (List.mem_map.mpr ⟨x,hx,q.symm⟩)),hl _ _ q.c2,q.c3.mono hd,q.c4⟩
theorem RS.close {rd lx tb fr ri bj p:Nat} {T:List Nat} {Z:List Nat} {G:Gs} {S:List CFr} {c:CFr} (R:RS H rd lx tb fr ri bj T p Z G (c :: S)) :
  RS (H.set fr (.list (S.reverse.map fun c=>.cell c.f))) rd lx tb fr ri bj T p (c.k :: Z) G S∧FsR (H.set fr (.list (S.reverse.map fun c=>.cell c.f))) (c.k :: Z) G c:=by
 have N:=R.nd'
 have g1:(H.set fr (.list (S.reverse.map fun c=>.cell c.f)))[fr]? = _:=aj R.fr_
 have hk:∀ (x:Nat) (d:Cell),H[x]? = some d→x ≠ fr→(H.set fr (.list (S.reverse.map fun c=>.cell c.f)))[x]? = some d:=fun x d h q=>ao (Ne.symm q) h
 generalize H.set fr (.list (S.reverse.map fun c=>.cell c.f)) = H' at hk g1 ⊢
 have B:=R.but R.fr_ hk (Ne.symm N.d1) (fun q=>(N.d3 _ q).2 rfl)
 have hd:∀ (t:Tr) (v:AV),DatR Z H' G t v→DatR (c.k :: Z) H' G t v:=fun t v h=>h.mono (fun z hz=>⟨.tail _ hz,fun d q=>q⟩) fun zz zz q=>q
 have hf:∀ x ∈ c :: S,FsR H' (c.k :: Z) G x:=fun x hx=>let q:=B.b5 x hx; ⟨q.1,q.2.1 (N.d2 x hx).2.1,q.2.2.mono hd,(R.fs x hx).c4⟩
 refine ⟨⟨B.b1,B.b2,B.b3,B.b4,g1,fun x hx=>hf x (.tail _ hx),fun z hz=>?_,?_,(List.nodup_cons.mp R.nf).2⟩,hf c (.head _)⟩
 ·rcases List.mem_cons.mp hz with rfl | hz
  ·exact ⟨_,(hf c (.head _)).c2⟩
  ·exact B.b6 z hz
 ·have hp:List.Perm (ri :: fr :: ((c :: S).map (fun zz=>zz.k)++Z)) (ri :: fr :: (S.map (fun zz=>zz.k)++c.k :: Z)):=.cons _ (.cons _ List.perm_middle.symm)
  exact hp.nodup_iff.mp R.nd
end
section
set_option bootstrap.genMatcherCode false
variable {n:Nat} {H:HS} {Q:AV→HS→Prop}
inductive Toks (T:List Nat):Nat→List Tk→Nat→Prop
 | nil {p:Nat}:Toks T p [] p
 | cons {p s e q:Nat} {t:Tk} {ks:List Tk}:Skip T p s→DN T s e t→Toks T e ks q→Toks T p (t :: ks) q
theorem lT.hands {G:Gs}:∀ {e:Option Lf} {v:AV},lT G e v→aZ v = true
 | none,_,rfl=>rfl
 | some (.whole _),_,rfl=>rfl
 | some (.truth _),_,rfl=>rfl
 | some (.sym _),_,⟨_,rfl,_⟩=>rfl
 | some (.str _),_,rfl=>rfl
 | some (.chr _),_,rfl=>rfl
theorem ku {G:Gs} {e:Option Lf} {v:AV} (h:lT G e v):∀ vs:List AV,aZ (fG vs v) = true
 | []=>h.hands
 | _ :: _=>rfl
structure RI (H0 H:HS) (rd lx tb fr ri bj:Nat) (T:List Nat) (p:Nat) (Z:List Nat) (G0 G:Gs) (S:List CFr) (ks:List Tk) (pe:Nat) (d:Tr):Prop where
 rs:RS H rd lx tb fr ri bj T p Z G S
 tk:Toks T p ks pe
 run:Run (S.map (fun zz=>zz.a)) ks d
 g:GLe G0 G
 sz:S.length + ks.length≤900
 xz:∀ c ∈ S,c.xs.length + ks.length≤900
 ext:Ext [ri,bj] H0 H
 lo:H0.length≤lx∧H0.length≤fr∧∀ c ∈ S,H0.length≤c.f∧H0.length≤c.k
inductive RInv (H0:HS) (rd lx tb fr ri bj:Nat) (T:List Nat) (G:Gs) (pe:Nat) (d:Tr) (m:Nat) (loc:Loc) (H2:HS):Prop
 | mk (p:Nat) (ks:List Tk) (Z:List Nat) (G':Gs) (S:List CFr) (o1 o2:Option AV) (e1:m = ks.length) (e2:loc = [lq "self" (some (.cell rd)),lq "token" o1,lq "datum" o2]) (h:RI H0 H2 rd lx tb fr ri bj T p Z G G' S ks pe d)
structure RDone (H0 H:HS) (rd lx tb fr ri bj:Nat) (T:List Nat) (G0:Gs) (pe:Nat) (d:Tr) (v:AV):Prop where
 ex:∃ Z G,DatR Z H G d v∧SymT H ri bj G∧GLe G0 G∧∀ z ∈ Z,∃ xs,H[z]? = some (.list xs)
 rd_:H[rd]? = some (rdI lx tb fr)
 lx_:H[lx]? = some (lxI T pe)
 ext:Ext [ri,bj] H0 H
theorem E6 (t:Tk):(t.word == ae "end") = false∧(t ≠ .op→(t.word == ae "(") = false)∧(t ≠ .vop→(t.word == ae "#(") = false)∧([[39],[96],[44],[44,64]].all fun x=>!(x == t.word)) = true∧(t ≠ .dot→(t.word == ae ".") = false)∧(t ≠ .cl→(t.word == ae ")") = false):=by
 cases t <;> refine ⟨by kernel_rfl,?_,?_,by kernel_rfl,?_,?_⟩ <;> first | (intro h; exact (h rfl).elim) | (intro _; kernel_rfl)
theorem C0 (l:Lf):l.tk ≠ .op∧l.tk ≠ .vop∧l.tk ≠ .dot∧l.tk ≠ .cl:=by
 cases l <;> (refine ⟨?_,?_,?_,?_⟩ <;> (intro h; cases h))
theorem Rp (v:Bool):(fw v == ae "quotation") = false:=by cases v <;> decide +kernel
theorem kg {rd lx tb fr ri bj p s e:Nat} {T:List Nat} {Z:List Nat} {G:Gs} {S:List CFr} {l:Lf} (hn:4≤n) (ho:l.ok) (R:RS H rd lx tb fr ri bj T p Z G S)
  (h:∀ v G' H',GLe G G'→LfD G' l v→RS H' rd lx tb fr ri bj T p Z G' S→Ext [ri,bj] H H'→Q v H'):ac (BB W) n (.ref 1154) [.cell rd,cZ (.str l.tk.word) l.tk.val s e] H Q:=by
 cases l with
 | sym w=>exact AX hn R.rd_ R.tb_ R.sy ho fun k G' H' a b c d zz=>h _ _ _ a ⟨k,rfl,b⟩ (R.symb a c d) d
 | whole k=>exact iu (by tm_at "o") R.rd_ (by kernel_rfl) rfl (h _ _ _ (fun zz zz q=>q) rfl R .refl)
 | truth b=>exact iu (by tm_at "o") R.rd_ (by kernel_rfl) rfl (h _ _ _ (fun zz zz q=>q) rfl R .refl)
 | str cs=>exact iu (by tm_at "o") R.rd_ (by kernel_rfl) rfl (h _ _ _ (fun zz zz q=>q) rfl R .refl)
 | chr c=>exact iu (by tm_at "o") R.rd_ (by kernel_rfl) rfl (h _ _ _ (fun zz zz q=>q) rfl R .refl)
theorem Ext.appJ {S:List Nat} {H H' J:HS} (h:Ext S H H'):Ext S H (H'++J):=⟨by have:=h.1; simp; lia,fun j hj hs=>by rw [List.getElem?_append_left (Nat.lt_of_lt_of_le hj h.1)]; exact h.2 j hj hs⟩
theorem Run.ne {A:List AFr} {ks:List Tk} {d:Tr} (h:Run A ks d):ks ≠ []:=by cases h <;> (intro q; cases q)
theorem map_cons {S:List CFr} {x:AFr} {A:List AFr} (h:S.map (fun zz=>zz.a) = x :: A):∃ c S',S = c :: S'∧c.a = x∧S'.map (fun zz=>zz.a) = A:=by
 cases S with
 | nil=>cases h
 | cons c S=>simp only [List.map_cons,List.cons.injEq] at h; exact ⟨c,S,rfl,h.1,h.2⟩
theorem nF {rd lx tb fr ri bj p s e:Nat} {T:List Nat} {Z:List Nat} {G:Gs} {S:List CFr} {c:CFr} {v:AV} (hn:4≤n) (h1:c.a.st = 0 ∨ c.a.st = 2) (h2:c.a.vec = true→c.a.st = 0) (hz:S.length≤1000) (hx:c.xs.length≤1000) (R:RS H rd lx tb fr ri bj T p Z G (c :: S))
  (h:∀ v,DatR (c.k :: Z) (H.set fr (.list (S.reverse.map fun c=>.cell c.f))) G c.a.tree v→Q v (H.set fr (.list (S.reverse.map fun c=>.cell c.f)))):ac (BB W) n (.ref 1147) [.cell rd,cZ (.str (ae ")")) v s e] H Q:=by
 have f:=R.fs c (.head _)
 have g:=R.close.2
 have f1:=f.c1
 have hfr:=R.fr_
 rw [List.reverse_cons,List.map_append] at hfr
 have hne:c.f ≠ fr:=aF f1 hfr (by unfold CFr.cell frI; intro q; cases q)
 unfold CFr.cell at f1
 cases hv:c.a.vec with
 | true =>
  rw [hv,h2 hv] at f1
  refine x8 (by tm_at "o") R.rd_ hfr (by simp; lia) hne f1 (h _ ?_)
  unfold AFr.tree
  rw [if_pos hv]
  exact .vec (.inr ⟨c.k,rfl,.head _,g.c2⟩) hx g.c3.1 g.c3.2
 | false =>
  rw [hv] at f1
  refine u3 (by tm_at "o") R.rd_ hfr (by simp; lia) (by rcases h1 with q | q <;> rw [q]; exact .inl rfl; exact .inr rfl) f1 f.c2 (R.nd'.d2 c (.head _)).2.1 hx f.c4.hands (h _ ?_)
  unfold AFr.tree
  rw [hv]
  exact .list g.c3.1 g.c3.2 g.c4
set_option tactic.hygienic true in
theorem zQ {rd lx tb f0 ri bj p pe:Nat} {T:List Nat} {G:Gs} {ks:List Tk} {d:Tr} (hn:12≤n) (hz:T.length≤100000) (hr:H[rd]? = some (rdI lx tb f0)) (hl:H[lx]? = some (lxI T p)) (ht:H[tb]? = some (tbI ri bj)) (hs:SymT H ri bj G) (htk:Toks T p ks pe) (hrun:Run [] ks d) (hk:ks.length≤900) {H0:HS} (h0:Ext [ri,bj] H0 H) (hlo:H0.length≤lx∧H0.length≤rd)
  (h:∀ v H' fr,RDone H0 H' rd lx tb fr ri bj T G pe d v→Q v H'):ac (BB W) n (.ref 1112) [.cell rd] H Q:=by
 have hr':=hr
 unfold rdI at hr
 refine ab fc (by tm_at "o") ?_
 tm_at "in"
 refine aR (aU ⟨by decide,?_⟩)
 tm_at "ww"
 have hrl:=ar hr'
 have hll:=ar hl
 generalize hH1:(H++[Cell.list []]).set rd (.inst 1164 [lv' "lexer" (.cell lx),lv' "table" (.cell tb),(Str.ofString "frames",.cell H.length)]) = H1
 have hk1:∀ (x:Nat) (c:Cell),H[x]? = some c→rdI lx tb f0 ≠ c→H1[x]? = some c:=fun x c hx q=>by
  rw [← hH1]
  exact ao (aF hr' hx q) (aw hx)
 have hx1:Ext [ri,bj] H0 H1:=by
  rw [← hH1]
  exact (h0.app).set (.inr hlo.2)
 have R0:RS H1 rd lx tb H.length ri bj T p [] G []:=by
  obtain ⟨⟨xr,er,_⟩,_,_,_,_⟩:=id hs
  refine ⟨by rw [← hH1]; exact aj (aw hr'),hk1 _ _ hl (by unfold rdI lxI; intro q; cases q),hk1 _ _ ht (by unfold rdI tbI; intro q; cases q),hs.keep fun x c hx q=>hk1 _ _ hx ?_,by rw [← hH1]; exact ao (by tm_at "o") aB,fun c hc=>(by cases hc),fun z hz=>(by cases hz),?_,List.nodup_nil⟩
  ·unfold rdI
   rcases q with ⟨xs,rfl,_⟩ | ⟨kv,rfl⟩ | ⟨a,b,rfl⟩ <;> (intro q; cases q)
  ·have:=ar er
   simp
   lia
 have I0:RI H0 H1 rd lx tb H.length ri bj T p [] G G [] ks pe d:=⟨R0,htk,hrun,fun zz zz q=>q,by simpa using hk,fun c hc=>(by cases hc),hx1,hlo.1,h0.1,fun c hc=>(by cases hc)⟩
 clear hk1 hx1 R0 hH1 htk hrun
 refine bI (RInv H0 rd lx tb H.length ri bj T G pe d) ks.length ⟨p,ks,[],G,[],none,none,rfl,rfl,I0⟩ ?_
 clear I0
 rintro m loc H2 ⟨p,ks,Z,G',S,o1,o2,rfl,rfl,rs,tk,run,hg,hsz,hxz,hext,hl1,hl2,hl3⟩
 cases tk with
 | nil=>exact (run.ne rfl).elim
 | cons hsk hat htk =>
  rename_i s e t ks
  have hrd:=rs.rd_
  have hlx:=rs.lx_
  unfold rdI at hrd
  unfold lxI at hlx
  tm_at "ww"
  refine wc (by tm_at "o") hz hsk hat rs.lx_ ?_
  have R1:=rs.lex (e:=e)
  have X1:Ext [ri,bj] H0 (H2.set lx (lxI T e)):=hext.set (.inr hl1)
  generalize H2.set lx (lxI T e) = H3 at R1 X1
  clear rs hext hrd hlx
  have hrd:=R1.rd_
  unfold rdI at hrd
  obtain ⟨w1,w2,w3,w4,w5,w6⟩:=E6 t
  have hSl:(S.reverse.map fun c=>AV.cell c.f).length = S.length:=by simp
  simp only [List.length_cons] at hsz hxz
  tm_at "ww"
  refine al w1 ?_
  tm_at "ww"
  generalize hA:S.map (fun zz=>zz.a) = A at run
  cases run with
  | op run =>
   refine Dh (by tm_at "o") R1.rd_ R1.fr_ (by tm_at "o") ?_
   tm_at "ww"
   refine ⟨ks.length,by simp,e,ks,Z,G',_,_,_,rfl,rfl,R1.open (v:=false) (s:=s),htk,by rw [List.map_cons,hA]; exact run,hg,by simp; lia,fun c hc=>?_,(X1.appJ).set (.inr hl2),hl1,hl2,fun c hc=>?_⟩
   ·rcases List.mem_cons.mp hc with rfl | hc
    ·simp; lia
    ·have:=hxz c hc; lia
   ·rcases List.mem_cons.mp hc with rfl | hc
    ·have:=X1.1; exact ⟨by show _≤H3.length + 1; lia,this⟩
    ·exact hl3 c hc
  | vop run =>
   refine zn (by tm_at "o") R1.rd_ R1.fr_ (by tm_at "o") ?_
   tm_at "ww"
   refine ⟨ks.length,by simp,e,ks,Z,G',_,_,_,rfl,rfl,R1.open (v:=true) (s:=s),htk,by rw [List.map_cons,hA]; exact run,hg,by simp; lia,fun c hc=>?_,(X1.appJ).set (.inr hl2),hl1,hl2,fun c hc=>?_⟩
   ·rcases List.mem_cons.mp hc with rfl | hc
    ·simp; lia
    ·have:=hxz c hc; lia
   ·rcases List.mem_cons.mp hc with rfl | hc
    ·have:=X1.1; exact ⟨by show _≤H3.length + 1; lia,this⟩
    ·exact hl3 c hc
  | dot hne run =>
   obtain ⟨c,S,rfl,hca,hA⟩:=map_cons hA
   have f:=R1.fs c (.head _)
   have f1:=f.c1
   have hfr:=R1.fr_
   rw [List.reverse_cons,List.map_append] at hfr
   unfold CFr.cell at f1
   have f3:=f.c3
   have f4:=f.c4
   rw [hca] at f1 f3 f4
   have hte:c.tail = cn:=f4
   have hxe:c.xs.isEmpty = false:=by
    have:=f3.1
    cases hx:c.xs with
    | nil=>rw [hx] at this; exact (hne (List.length_eq_zero_iff.mp this)).elim
    | cons=>rfl
   refine dX (by tm_at "o") R1.rd_ (w2 (by intro q; cases q)) (w3 (by intro q; cases q)) w4 ?_
   tm_at "ww"
   refine Bi (by tm_at "o") R1.rd_ hfr (by simp at hsz ⊢; lia) f1 f.c2 hxe ?_
   tm_at "ww"
   have R2:=R1.turn (st':=1) (e':=none) (tl:=c.tail) hte
   rw [hca] at R2
   refine ⟨ks.length,by simp,e,ks,Z,G',_,_,_,rfl,rfl,R2,htk,by rw [List.map_cons,hA]; exact run,hg,by simp at hsz ⊢; lia,fun x hx=>?_,X1.set (.inr (hl3 c (.head _)).1),hl1,hl2,fun x hx=>?_⟩
   ·rcases List.mem_cons.mp hx with rfl | hx
    ·have:=hxz c (.head _); show c.xs.length + ks.length≤900; lia
    ·have:=hxz x (.tail _ hx); lia
   ·rcases List.mem_cons.mp hx with rfl | hx
    ·exact hl3 c (.head _)
    ·exact hl3 x (.tail _ hx)
  | leaf0 ho =>
   rename_i l
   obtain ⟨n1,n2,n3,n4⟩:=C0 l
   obtain rfl:S = []:=by cases S with
    | nil=>rfl
    | cons c S=>cases hA
   refine dX (by tm_at "o") R1.rd_ (w2 n1) (w3 n2) w4 ?_
   tm_at "ww"
   refine al (w5 n3) ?_
   tm_at "ww"
   refine al (w6 n4) ?_
   tm_at "ww"
   refine kg (by tm_at "o") ho R1 fun v G2 H4 g2 ld R2 x2=>?_
   have hrd:=R2.rd_
   unfold rdI at hrd
   tm_at "ww"
   refine gH (by tm_at "o") R2.rd_ R2.fr_ ?_
   tm_at "ww"
   refine qS (by tm_at "o") R2.rd_ R2.fr_ ?_
   tm_at "ww"
   cases htk
   exact h v _ _ ⟨⟨Z,G2,.leaf ld,R2.sy,hg.trans g2,R2.zs⟩,R2.rd_,R2.lx_,X1.trans (x2.mono (fun j q=>q) |> fun q=>⟨q.1,fun j hj hs=>q.2 j hj hs⟩)⟩
  | leafP ho run =>
   rename_i l v ts
   obtain ⟨n1,n2,n3,n4⟩:=C0 l
   obtain ⟨c,S,rfl,hca,hA⟩:=map_cons hA
   refine dX (by tm_at "o") R1.rd_ (w2 n1) (w3 n2) w4 ?_
   tm_at "ww"
   refine al (w5 n3) ?_
   tm_at "ww"
   refine al (w6 n4) ?_
   tm_at "ww"
   refine kg (by tm_at "o") ho R1 fun v G2 H4 g2 ld R2 x2=>?_
   have hrd:=R2.rd_
   unfold rdI at hrd
   have f:=R2.fs c (.head _)
   have f1:=f.c1
   have hfr:=R2.fr_
   rw [List.reverse_cons,List.map_append] at hfr
   unfold CFr.cell at f1
   rw [hca] at f1
   have hxc:=hxz c (.head _)
   tm_at "ww"
   refine fq (by tm_at "o") R2.rd_ hfr (by simp at hsz ⊢; lia) f1 (Rp _) f.c2 (by tm_at "o") ?_
   tm_at "ww"
   have R3:=R2.push (.leaf ld)
   rw [hca] at R3
   refine ⟨ks.length,by simp,e,ks,Z,G2,_,_,_,rfl,rfl,R3,htk,by rw [List.map_cons,hA]; exact run,hg.trans g2,by simp at hsz ⊢; lia,fun x hx=>?_,(X1.trans x2).set (.inr (hl3 c (.head _)).2),hl1,hl2,fun x hx=>?_⟩
   ·rcases List.mem_cons.mp hx with rfl | hx
    ·show (c.xs++[v]).length + ks.length≤900; simp; lia
    ·have:=hxz x (.tail _ hx); lia
   ·rcases List.mem_cons.mp hx with rfl | hx
    ·exact hl3 c (.head _)
    ·exact hl3 x (.tail _ hx)
  | leafT ho run =>
   rename_i l ts
   obtain ⟨n1,n2,n3,n4⟩:=C0 l
   obtain ⟨c,S,rfl,hca,hA⟩:=map_cons hA
   refine dX (by tm_at "o") R1.rd_ (w2 n1) (w3 n2) w4 ?_
   tm_at "ww"
   refine al (w5 n3) ?_
   tm_at "ww"
   refine al (w6 n4) ?_
   tm_at "ww"
   refine kg (by tm_at "o") ho R1 fun v G2 H4 g2 ld R2 x2=>?_
   have hrd:=R2.rd_
   unfold rdI at hrd
   have f:=R2.fs c (.head _)
   have f1:=f.c1
   have hfr:=R2.fr_
   rw [List.reverse_cons,List.map_append] at hfr
   unfold CFr.cell at f1
   rw [hca] at f1
   have hxc:=hxz c (.head _)
   tm_at "ww"
   refine nw (by tm_at "o") R2.rd_ hfr (by simp at hsz ⊢; lia) f1 (Rp _) ?_
   tm_at "ww"
   have R3:=R2.turn (st':=2) (e':=some l) (tl:=v) ld
   rw [hca] at R3
   refine ⟨ks.length,by simp,e,ks,Z,G2,_,_,_,rfl,rfl,R3,htk,by rw [List.map_cons,hA]; exact run,hg.trans g2,by simp at hsz ⊢; lia,fun x hx=>?_,(X1.trans x2).set (.inr (hl3 c (.head _)).1),hl1,hl2,fun x hx=>?_⟩
   ·rcases List.mem_cons.mp hx with rfl | hx
    ·show c.xs.length + ks.length≤900; lia
    ·have:=hxz x (.tail _ hx); lia
   ·rcases List.mem_cons.mp hx with rfl | hx
    ·exact hl3 c (.head _)
    ·exact hl3 x (.tail _ hx)
  | cl0 h1 h2 =>
   obtain ⟨c,S,rfl,hca,hA⟩:=map_cons hA
   obtain rfl:S = []:=by cases S with
    | nil=>rfl
    | cons c S=>cases hA
   subst hca
   have hxc:=hxz c (.head _)
   refine dX (by tm_at "o") R1.rd_ (w2 (by intro q; cases q)) (w3 (by intro q; cases q)) w4 ?_
   tm_at "ww"
   refine nF (by tm_at "o") h1 h2 (by simp) (by tm_at "o") R1 fun v dv=>?_
   obtain ⟨R2,_⟩:=R1.close
   have hrd:=R2.rd_
   unfold rdI at hrd
   tm_at "ww"
   refine gH (by tm_at "o") R2.rd_ R2.fr_ ?_
   tm_at "ww"
   refine qS (by tm_at "o") R2.rd_ R2.fr_ ?_
   tm_at "ww"
   cases htk
   exact h v _ _ ⟨⟨_,G',dv,R2.sy,hg,R2.zs⟩,R2.rd_,R2.lx_,X1.set (.inr hl2)⟩
  | clP h1 h2 run =>
   rename_i f v ts
   obtain ⟨c,S,rfl,hca,hA⟩:=map_cons hA
   obtain ⟨c2,S,rfl,hca2,hA2⟩:=map_cons hA
   subst hca
   have hxc:=hxz c (.head _)
   have hxc2:=hxz c2 (.tail _ (.head _))
   refine dX (by tm_at "o") R1.rd_ (w2 (by intro q; cases q)) (w3 (by intro q; cases q)) w4 ?_
   tm_at "ww"
   refine nF (by tm_at "o") h1 h2 (by simp at hsz ⊢; lia) (by tm_at "o") R1 fun v dv=>?_
   obtain ⟨R2,_⟩:=R1.close
   have X2:Ext [ri,bj] H0 (H3.set H.length (.list ((c2 :: S).reverse.map fun c=>.cell c.f))):=X1.set (.inr hl2)
   generalize H3.set H.length (.list ((c2 :: S).reverse.map fun c=>.cell c.f)) = H4 at R2 dv X2 ⊢
   have hrd:=R2.rd_
   unfold rdI at hrd
   have f:=R2.fs c2 (.head _)
   have f1:=f.c1
   have hfr:=R2.fr_
   rw [List.reverse_cons,List.map_append] at hfr
   unfold CFr.cell at f1
   rw [hca2] at f1
   tm_at "ww"
   refine fq (by tm_at "o") R2.rd_ hfr (by simp at hsz ⊢; lia) f1 (Rp _) f.c2 (by tm_at "o") ?_
   tm_at "ww"
   have R3:=R2.push dv
   rw [hca2] at R3
   refine ⟨ks.length,by simp,e,ks,_,G',_,_,_,rfl,rfl,R3,htk,by rw [List.map_cons,hA2]; exact run,hg,by simp at hsz ⊢; lia,fun x hx=>?_,X2.set (.inr (hl3 c2 (.tail _ (.head _))).2),hl1,hl2,fun x hx=>?_⟩
   ·rcases List.mem_cons.mp hx with rfl | hx
    ·show (c2.xs++[v]).length + ks.length≤900; simp; lia
    ·have:=hxz x (.tail _ (.tail _ hx)); lia
   ·rcases List.mem_cons.mp hx with rfl | hx
    ·exact hl3 c2 (.tail _ (.head _))
    ·exact hl3 x (.tail _ (.tail _ hx))
end
section
set_option bootstrap.genMatcherCode false
variable {n:Nat} {H:HS} {Q:AV→HS→Prop}
noncomputable def bL (tb pt ti op:Nat):Cell:=.inst 1999 [lv' "table" (.cell tb),lv' "last" (.int 0),lv' "titles" (.cell ti),lv' "ops" (.cell op),lv' "root" .none,lv' "precision" (.int 8),lv' "patience" (.int 100000),lv' "ports" (.cell pt),lv' "tower" .none]
noncomputable def ptI (pr fl:Nat):Cell:=.inst 1410 [lv' "rows" (.cell pr),lv' "files" (.cell fl),lv' "current_output" (.int 0),lv' "current_input" (.int 1)]
noncomputable def cV (oc:AV):Cell:=.inst 1326 [lv' "codes" oc,lv' "is_open" (.bool true),lv' "is_input" (.bool false)]
noncomputable def inI (ic:AV) (p:Nat):Cell:=.inst 1298 [lv' "codes" ic,lv' "place" (.int (p:Int)),lv' "is_open" (.bool true),lv' "is_input" (.bool true)]
noncomputable abbrev stA (tb:Nat):AV:=.obj 1886 ["table"] [.cell tb]
noncomputable abbrev poA (k:Nat):AV:=.obj 429 ["number"] [.int (k:Int)]
structure PortAt (H:HS) (sg k o:Nat):Prop where
 ex:∃ tb pt ti op pr fl rows,H[sg]? = some (bL tb pt ti op)∧H[pt]? = some (ptI pr fl)∧H[pr]? = some (.list rows)∧rows[k]? = some (.cell o)∧k < 1000
theorem Fb {pt pr fl k:Nat} {rows:List AV} {a:AV} (hn:1≤n) (e2:H[pt]? = some (ptI pr fl)) (e3:H[pr]? = some (.list rows)) (e4:rows[k]? = some a) (hk:k < 1000) (h:Q a H):ac (BB W) n (.ref 1351) [.cell pt,.int (k:Int)] H Q:=by
 unfold ptI at e2
 refine ab ll (by tm_at "o") ?_
 tm_at "in"
 refine bn (.cell e3) (by tm_at "o") (by tm_at "o") (by rw [Int.toNat_natCast]; exact e4) ?_
 tm_at "ww"
 exact h
theorem iT {sg k o tb:Nat} (hn:3≤n) (hp:PortAt H sg k o) (h:Q (.cell o) H):ac (BB W) n (.ref 1421) [.cell sg,stA tb,poA k] H Q:=by
 obtain ⟨tb',pt,ti,op,pr,fl,rows,e1,e2,e3,e4,e5⟩:=hp.ex
 unfold bL at e1
 unfold ptI at e2
 refine ab vZ (by tm_at "o") ?_
 tm_at "in"
 refine wV (by tm_at "o") .obj rfl ?_
 tm_at "ww"
 refine mR (by tm_at "o") ?_
 tm_at "ww"
 refine Fb (by tm_at "o") e2 e3 e4 e5 ?_
 tm_at "ww"
 exact h
theorem iB {sg k o tb:Nat} {oc:AV} {a b:AV} (hn:4≤n) (hp:PortAt H sg k o) (ho:H[o]? = some (cV oc)) (h:Q (.cell o) H):ac (BB W) n (.ref 1428) [.cell sg,stA tb,a,b,poA k,.bool false] H Q:=by
 unfold cV at ho
 refine ab dM (by tm_at "o") ?_
 tm_at "in"
 refine iT (by tm_at "o") hp ?_
 tm_at "ww"
 refine DF ?_
 rw [beq_self_eq_true]
 tm_at "ww"
 refine cD (by tm_at "o") ?_
 tm_at "ww"
 exact h
theorem vj {sg k o tb:Nat} {ic:AV} {p:Nat} {a b:AV} (hn:4≤n) (hp:PortAt H sg k o) (ho:H[o]? = some (inI ic p)) (h:Q (.cell o) H):ac (BB W) n (.ref 1428) [.cell sg,stA tb,a,b,poA k,.bool true] H Q:=by
 unfold inI at ho
 refine ab dM (by tm_at "o") ?_
 tm_at "in"
 refine iT (by tm_at "o") hp ?_
 tm_at "ww"
 refine DF ?_
 rw [beq_self_eq_true]
 tm_at "ww"
 refine cD (by tm_at "o") ?_
 tm_at "ww"
 exact h
theorem td {sg k o tb:Nat} {oc:AV} {a b:AV} (hn:5≤n) (hp:PortAt H sg k o) (ho:H[o]? = some (cV oc)) (h:Q (.cell o) H):ac (BB W) n (.ref 1435) [.cell sg,stA tb,a,b,poA k,.bool false] H Q:=by
 have ho':=ho
 unfold cV at ho
 refine ab dJ (by tm_at "o") ?_
 tm_at "in"
 refine iB (by tm_at "o") hp ho' ?_
 tm_at "ww"
 refine cD (by tm_at "o") ?_
 tm_at "ww"
 exact h
theorem tL {sg k o tb:Nat} {oc:AV} {a:AV} {as:List AV} {i:Nat} (hn:6≤n) (hp:PortAt H sg k o) (ho:H[o]? = some (cV oc)) (hi:as[i]? = some (poA k)) (hz:as.length≤100) (h:Q (.cell o) H):ac (BB W) n (.ref 1449) [.cell sg,stA tb,a,.lst as,.int (i:Int)] H Q:=by
 have hlt:=(List.getElem?_eq_some_iff.mp hi).1
 refine ab pw (by tm_at "o") ?_
 tm_at "in"
 refine b7 (decide_eq_true (by tm_at "o")) ?_
 tm_at "ww"
 refine bn .lst (by tm_at "o") (by tm_at "o") (by rw [Int.toNat_natCast]; exact hi) ?_
 tm_at "ww"
 refine td (by tm_at "o") hp ho ?_
 tm_at "ww"
 exact h
theorem uA {sg k o tb:Nat} {ic:AV} {p:Nat} {a b:AV} (hn:5≤n) (hp:PortAt H sg k o) (ho:H[o]? = some (inI ic p)) (h:Q (.cell o) H):ac (BB W) n (.ref 1435) [.cell sg,stA tb,a,b,poA k,.bool true] H Q:=by
 have ho':=ho
 unfold inI at ho
 refine ab dJ (by tm_at "o") ?_
 tm_at "in"
 refine vj (by tm_at "o") hp ho' ?_
 tm_at "ww"
 refine cD (by tm_at "o") ?_
 tm_at "ww"
 exact h
theorem t6 {sg k o tb:Nat} {ic:AV} {p:Nat} {a:AV} {as:List AV} {i:Nat} (hn:6≤n) (hp:PortAt H sg k o) (ho:H[o]? = some (inI ic p)) (hi:as[i]? = some (poA k)) (hz:as.length≤100) (h:Q (.cell o) H):ac (BB W) n (.ref 1442) [.cell sg,stA tb,a,.lst as,.int (i:Int)] H Q:=by
 have hlt:=(List.getElem?_eq_some_iff.mp hi).1
 refine ab si (by tm_at "o") ?_
 tm_at "in"
 refine b7 (decide_eq_true (by tm_at "o")) ?_
 tm_at "ww"
 refine bn .lst (by tm_at "o") (by tm_at "o") (by rw [Int.toNat_natCast]; exact hi) ?_
 tm_at "ww"
 refine uA (by tm_at "o") hp ho ?_
 tm_at "ww"
 exact h
theorem om {o oc:Nat} {xs ys:List AV} (hn:1≤n) (ho:H[o]? = some (cV (.cell oc))) (hc:H[oc]? = some (.list xs)) (hz:xs.length + ys.length≤100000) (h:Q .none (H.set oc (.list (xs++ys)))):ac (BB W) n (.ref 1323) [.cell o,.lst ys] H Q:=by
 unfold cV at ho
 refine ab mK (by tm_at "o") ?_
 tm_at "in"
 refine Cy hc hz ?_
 tm_at "ww"
 exact h
theorem eE {sg tb k o oc c:Nat} {xs:List AV} (hn:7≤n) (hp:PortAt H sg k o) (ho:H[o]? = some (cV (.cell oc))) (hc:H[oc]? = some (.list xs)) (hz:xs.length + 1≤100000) (h:Q (.val (.ref 198)) (H.set oc (.list (xs++[.int (c:Int)])))):ac (BB W) n (.ref 1519) [.cell sg,stA tb,.lst [chA c,poA k]] H Q:=by
 have ho':=ho
 unfold cV at ho
 refine ab gV (by tm_at "o") ?_
 tm_at "in"
 refine gO (by tm_at "o") ?_
 tm_at "ww"
 refine tL (i:=1) (by tm_at "o") hp ho' rfl (by simp) ?_
 tm_at "ww"
 refine aA ?_
 tm_at "ww"
 refine om (by tm_at "o") ho' hc (by simpa using hz) ?_
 tm_at "ww"
 refine cL (by tm_at "o") ?_
 tm_at "ww"
 exact h
theorem iI {sg tb k o oc:Nat} {xs:List AV} (hn:7≤n) (hp:PortAt H sg k o) (ho:H[o]? = some (cV (.cell oc))) (hc:H[oc]? = some (.list xs)) (hz:xs.length + 1≤100000) (h:Q (.val (.ref 198)) (H.set oc (.list (xs++[.int 10])))):ac (BB W) n (.ref 1512) [.cell sg,stA tb,.lst [poA k]] H Q:=by
 have ho':=ho
 unfold cV at ho
 refine ab lN (by tm_at "o") ?_
 tm_at "in"
 refine tL (i:=0) (by tm_at "o") hp ho' rfl (by simp) ?_
 tm_at "ww"
 refine aA ?_
 tm_at "ww"
 refine om (by tm_at "o") ho' hc (by simpa using hz) ?_
 tm_at "ww"
 refine cL (by tm_at "o") ?_
 tm_at "ww"
 exact h
theorem dI {tb c:Nat} (hn:4≤n) (h:Q (chA c) H):ac (BB W) n (.ref 1484) [stA tb,.int (c:Int)] H Q:=by
 refine ab mV (by tm_at "o") ?_
 tm_at "in"
 refine me (by tm_at "o") ?_
 tm_at "ww"
 exact h
theorem fz {o p c:Nat} {xs:List AV} (hn:1≤n) (ho:H[o]? = some (inI (.lst xs) p)) (hz:xs.length≤100000) (hc:xs[p]? = some (.int (c:Int))) (h:Q (.int (c:Int)) H):ac (BB W) n (.ref 1288) [.cell o] H Q:=by
 have hlt:=(List.getElem?_eq_some_iff.mp hc).1
 unfold inI at ho
 refine ab fS (by tm_at "o") ?_
 tm_at "in"
 refine b7 (decide_eq_true (by tm_at "o")) ?_
 tm_at "ww"
 refine bn .lst (by tm_at "o") (by tm_at "o") (by rw [Int.toNat_natCast]; exact hc) ?_
 tm_at "ww"
 exact h
theorem ot {sg tb k o p c:Nat} {xs:List AV} (hn:7≤n) (hp:PortAt H sg k o) (ho:H[o]? = some (inI (.lst xs) p)) (hz:xs.length≤100000) (hc:xs[p]? = some (.int (c:Int))) (h:Q (chA c) H):ac (BB W) n (.ref 1498) [.cell sg,stA tb,.lst [poA k]] H Q:=by
 have ho':=ho
 unfold inI at ho
 refine ab i7 (by tm_at "o") ?_
 tm_at "in"
 refine t6 (i:=0) (by tm_at "o") hp ho' rfl (by simp) ?_
 tm_at "ww"
 refine fz (by tm_at "o") ho' hz hc ?_
 tm_at "ww"
 refine dI (by tm_at "o") ?_
 tm_at "ww"
 exact h
theorem mU {sg tb k o p c:Nat} {xs:List AV} (hn:7≤n) (hp:PortAt H sg k o) (ho:H[o]? = some (inI (.lst xs) p)) (hz:xs.length≤100000) (hc:xs[p]? = some (.int (c:Int))) (h:Q (chA c) (H.set o (inI (.lst xs) (p + 1)))):ac (BB W) n (.ref 1491) [.cell sg,stA tb,.lst [poA k]] H Q:=by
 have ho':=ho
 unfold inI at ho h
 refine ab ik (by tm_at "o") ?_
 tm_at "in"
 refine t6 (i:=0) (by tm_at "o") hp ho' rfl (by simp) ?_
 tm_at "ww"
 refine fz (by tm_at "o") ho' hz hc ?_
 tm_at "ww"
 refine dI (by tm_at "o") ?_
 tm_at "ww"
 exact h
end
section
set_option bootstrap.genMatcherCode false
variable {n:Nat} {H:HS} {Q:AV→HS→Prop}
theorem kO {sg tb k o oc:Nat} {cs:List Nat} (hn:6≤n) (hp:PortAt H sg k o) (ho:H[o]? = some (cV (.cell oc))) (hc:H[oc]? = some (.list (ai cs))) (hz:cs.length≤100000) (h:Q (txA cs .none) H):ac (BB W) n (.ref 1470) [.cell sg,stA tb,.lst [poA k]] H Q:=by
 have ho':=ho
 have hz':(ai cs).length≤100000:=by simpa using hz
 unfold cV at ho
 refine ab dh (by tm_at "o") ?_
 tm_at "in"
 refine iB (by tm_at "o") hp ho' ?_
 tm_at "ww"
 refine gR (.cell hc) hz' ?_
 tm_at "ww"
 refine qC (by tm_at "o") .lst hz' ?_
 tm_at "ww"
 exact h
theorem wl {sg tb pt ti op k o oc:Nat} {xs:List AV} {v:AV} {s:List Nat} {m:Nat} (hn:14≤n) (hs:H[sg]? = some (bL tb pt ti op)) (hp:PortAt H sg k o) (ho:H[o]? = some (cV (.cell oc))) (hc:H[oc]? = some (.list xs)) (hw:Wr H (.item (.tup [.int 1,v])) s m) (hm:m≤50000) (hl:s.length≤50000) (hz:xs.length + s.length≤100000)
  (h:∀ J,Q (.val (.ref 198)) ((H++J).set oc (.list (xs++ai s)))):ac (BB W) n (.ref 1505) [.cell sg,stA tb,.lst [v,poA k]] H Q:=by
 have ho':=ho
 have hs':=hs
 unfold bL at hs
 unfold cV at ho
 refine ab pO (by tm_at "o") ?_
 tm_at "in"
 refine tL (i:=1) (by tm_at "o") hp ho' rfl (by simp) ?_
 tm_at "ww"
 refine D6 (by tm_at "o") ?_
 tm_at "ww"
 refine kP (by tm_at "o") hw hm hl fun ps q ws=>?_
 have ho2:(PH H ps q ws)[o]? = some (cV (.cell oc)):=PH.old ho'
 have hc2:(PH H ps q ws)[oc]? = some (.list xs):=PH.old hc
 have ho3:=ho2
 unfold cV at ho3
 tm_at "ww"
 refine hD (by tm_at "o") (by tm_at "o") ?_
 tm_at "ww"
 refine om (by tm_at "o") ho2 hc2 (by simpa using hz) ?_
 tm_at "ww"
 refine cL (by tm_at "o") ?_
 tm_at "ww"
 exact h _
theorem yb {T:List Nat} (hn:2≤n) (h:Q (.cell H.length) (H++[lxI T 0])):ac (BB W) n (.ref 1058) [.str T,.int 8,.bool true] H Q:=by
 refine bX zA (by tm_at "o") ?_
 refine am jj (by tm_at "o") ?_
 tm_at "in"
 simp only [aq]
 exact ⟨trivial,h⟩
theorem kq {T:List Nat} {tb:Nat} (hn:4≤n) (h:∀ f0,Q (.cell H.length) (H++[rdI (H.length + 1) tb f0,lxI T 0,.list []])):ac (BB W) n (.ref 1164) [.str T,.cell tb,.int 8] H Q:=by
 refine bX xF (by tm_at "o") ?_
 refine zg (by tm_at "o") ?_
 tm_at "in"
 refine yb (by tm_at "o") ?_
 simp only [List.length_append,List.length_cons,List.length_nil,List.append_assoc,List.nil_append,List.cons_append,Nat.zero_add]
 tm_at "ww"
 simp only [cz,List.nil_append,List.cons_append]
 refine aR (aU ⟨by decide,?_⟩)
 simp only [List.length_append,List.length_cons,List.length_nil,List.append_assoc,List.nil_append,List.cons_append,Nat.zero_add]
 tm_at "ww"
 simp only [cz,List.nil_append,List.cons_append]
 exact ⟨trivial,h _⟩
theorem Dv:∃ o,(BB W).K.lookup 201 = some o∧o.cls = .ref 189:=⟨PW,by kernel_rfl,rfl⟩
set_option tactic.hygienic true in
theorem A0 {Z:List Nat} {G:Gs} {t:Tr} {v:AV} {ri bj:Nat} (hd:DatR Z H G t v) (hs:SymT H ri bj G) (h:Q (.bool false) H):CMP (BB W) n .Is v (.val (.ref 201)) H Q:=by
 obtain ⟨o,e1,e2⟩:=Dv (W:=W)
 obtain ⟨o',e1',e2'⟩:=nn (W:=W)
 have ho:∀ {C:Nat} {ks:List Str} {as:List AV},C ≠ 189→CMP (BB W) n .Is (.obj C ks as) (.val (.ref 201)) H Q:=fun hc=>uH e1 (by rw [e2]; intro q; cases q; exact hc rfl) h
 have hl:∀ {l:Lf} {v:AV},LfD G l v→CMP (BB W) n .Is v (.val (.ref 201)) H Q:=fun {l v} q=>by
  cases l with
  | whole k=>cases q; exact gZ h
  | truth b=>cases q; exact fv h
  | sym w =>
   obtain ⟨k,rfl,hk⟩:=q
   obtain ⟨a,ha⟩:=hs.syms _ (jl hk)
   exact D9 ha e1 h
  | str cs=>cases q; exact ho (by decide)
  | chr c=>cases q; exact ho (by decide)
 cases hd with
 | leaf q=>exact hl q
 | vec _ _ _ _=>exact ho (by decide)
 | list hlen _ he =>
  rename_i ts e vs ev hh
  cases vs with
  | cons x xs=>exact ho (by decide)
  | nil =>
   cases e with
   | none =>
    cases he
    exact wD (by decide) e1' e1 (by rw [e2']; intro q; cases q) h
   | some l=>exact hl he
theorem fh {o p:Nat} {cs:List Nat} (hn:4≤n) (ho:H[o]? = some (inI (.lst (ai cs)) p)) (hz:cs.length≤100000) (hv:∀ c ∈ cs,c≤1114111) (h:Q (.str (cs.drop p)) H):ac (BB W) n (.ref 1295) [.cell o] H Q:=by
 unfold inI at ho
 refine ab fT (by tm_at "o") ?_
 tm_at "in"
 refine ma .lst (by simpa using hz) (.int _) .none .none (by intro q; cases q) ?_
 tm_at "ww"
 rw [xD]
 have hz':(cs.drop p).length≤100000:=by rw [List.length_drop]; lia
 refine gL (cs:=cs.drop p) (by tm_at "o") (.inl (by rw [ai,ai,List.map_drop])) hz' (fun c hc=>hv c (List.mem_of_mem_drop hc)) ?_
 tm_at "ww"
 exact h
theorem n0 {sg tb pt ti op k o p pe ri bj:Nat} {cs:List Nat} {G:Gs} {ks:List Tk} {d:Tr} (hn:14≤n) (hs:H[sg]? = some (bL tb pt ti op)) (hp:PortAt H sg k o) (ho:H[o]? = some (inI (.lst (ai cs)) p)) (hz:cs.length≤100000) (hv:∀ c ∈ cs,c≤1114111)
  (ht:H[tb]? = some (tbI ri bj)) (hsy:SymT H ri bj G) (htk:Toks (cs.drop p) 0 ks pe) (hrun:Run [] ks d) (hk:ks.length≤900)
  (h:∀ v Z G' H',DatR Z H' G' d v→SymT H' ri bj G'→GLe G G'→Ext [ri,bj,o] H H'→H'[o]? = some (inI (.lst (ai cs)) (p + pe))→Q v H'):ac (BB W) n (.ref 1477) [.cell sg,stA tb,.lst [poA k]] H Q:=by
 have ho':=ho
 have hs':=hs
 unfold bL at hs
 unfold inI at ho
 refine ab iH (by tm_at "o") ?_
 tm_at "in"
 refine t6 (i:=0) (by tm_at "o") hp ho' rfl (by simp) ?_
 tm_at "ww"
 refine fh (by tm_at "o") ho' hz hv ?_
 tm_at "ww"
 refine kq (by tm_at "o") fun f0=>?_
 have hrd:(H++[rdI (H.length + 1) tb f0,lxI (cs.drop p) 0,.list []])[H.length]? = some (rdI (H.length + 1) tb f0):=yK
 have hlx:(H++[rdI (H.length + 1) tb f0,lxI (cs.drop p) 0,.list []])[H.length + 1]? = some (lxI (cs.drop p) 0):=by
  rw [List.getElem?_append_right (by tm_at "o"),Nat.add_sub_cancel_left]; rfl
 have hrd':=hrd
 unfold rdI at hrd'
 tm_at "ww"
 refine zQ (H0:=H) (by tm_at "o") (by rw [List.length_drop]; lia) hrd hlx (aw ht) (hsy.keep fun x c hx zz=>aw hx) htk hrun hk (Ext.refl.appJ) ⟨by lia,Nat.le_refl _⟩ fun v H' fr R=>?_
 obtain ⟨⟨Z,G',dv,sy,hg,zs⟩,r1,r2,r3⟩:=R
 have hne:o ∉ [ri,bj]:=fun q=>by
  obtain ⟨⟨xr,er,_⟩,ed,_,_,_⟩:=hsy
  rcases List.mem_cons.mp q with rfl | q
  ·rw [er] at ho; cases ho
  ·obtain rfl:=List.mem_singleton.mp q
   rw [ed] at ho; cases ho
 have ho2:=r3.get hne ho'
 have ho3:=ho2
 have hrd2:=r1
 unfold inI at ho3
 unfold rdI at hrd2
 tm_at "ww"
 refine nG (by tm_at "o") r1 r2 ?_
 tm_at "ww"
 have hk4:∀ (x:Nat) (c:Cell),H'[x]? = some c→(∀ fs,c ≠ .inst 1298 fs)→(H'.set o (inI (.lst (ai cs)) (p + pe)))[x]? = some c:=fun x c hx q=>ao (aF ho2 hx (fun e=>q _ e.symm)) hx
 have dv4:DatR Z (H'.set o (inI (.lst (ai cs)) (p + pe))) G' d v:=dv.mono (fun z hz=>⟨hz,fun c hc=>hk4 _ _ hc (by
  obtain ⟨xs,e⟩:=zs z hz
  rw [e] at hc; cases hc
  intro _ q; cases q)⟩) fun zz zz q=>q
 have sy4:SymT (H'.set o (inI (.lst (ai cs)) (p + pe))) ri bj G':=sy.keep fun x c hx q=>hk4 x c hx (by
  rcases q with ⟨xs,rfl,_⟩ | ⟨kv,rfl⟩ | ⟨a,b,rfl⟩ <;> (intro _ q; cases q))
 refine A0 dv4 sy4 ?_
 tm_at "ww"
 refine oN (by tm_at "o") ?_
 tm_at "ww"
 refine h v Z G' _ dv4 sy4 hg ((r3.mono fun j q=>?_).set (.inl (.tail _ (.tail _ (.head _))))) (aj ho2)
 rcases List.mem_cons.mp q with rfl | q
 ·exact .head _
 ·obtain rfl:=List.mem_singleton.mp q
  exact .tail _ (.head _)
end
section
set_option bootstrap.genMatcherCode false
noncomputable def Tr.ok:Nat→Tr→Prop
 | _,.leaf l=>l.ok
 | 0,_=>False
 | n + 1,.list ts e=>ts.length≤3∧(∀ t ∈ ts,Tr.ok n t)∧∀ l,e = some l→l.ok∧ts ≠ []
 | n + 1,.vec ts=>ts.length≤3∧∀ t ∈ ts,Tr.ok n t
noncomputable def tkT:Tk→List Nat
 | .op=>[40]
 | .vop=>[35,40]
 | .cl=>[41]
 | .dot=>[46]
 | .sym w=>w
 | .num k=>aH k
 | .bool b=>[35,if b = true then 116 else 102]
 | .chr c=>jq c
 | .str cs=>cb cs
noncomputable def gs:Option Lf→List Nat
 | none=>[]
 | some l=>32 :: 46 :: 32 :: tkT l.tk
noncomputable def A1:Option Lf→List Tk
 | none=>[]
 | some l=>[.dot,l.tk]
mutual
noncomputable def tx:Tr→List Nat
 | .leaf l=>tkT l.tk
 | .list ts e=>40 :: (txs ts++(gs e++[41]))
 | .vec ts=>35 :: 40 :: (txs ts++[41])
noncomputable def txs:List Tr→List Nat
 | []=>[]
 | t :: ts=>tx t++txr ts
noncomputable def txr:List Tr→List Nat
 | []=>[]
 | t :: ts=>32 :: (tx t++txr ts)
end
mutual
noncomputable def tks:Tr→List Tk
 | .leaf l=>[l.tk]
 | .list ts e=>.op :: (hU ts++(A1 e++[.cl]))
 | .vec ts=>.vop :: (hU ts++[.cl])
noncomputable def hU:List Tr→List Tk
 | []=>[]
 | t :: ts=>tks t++hU ts
end
theorem eZ {P:Tr→Prop} (hp:∀ t,P t→∀ v done S ks d,Run (⟨v,done++[t],0,none⟩ :: S) ks d→Run (⟨v,done,0,none⟩ :: S) (tks t++ks) d) :
  ∀ (ts:List Tr),(∀ t ∈ ts,P t)→∀ v done S ks d,Run (⟨v,done++ts,0,none⟩ :: S) ks d→Run (⟨v,done,0,none⟩ :: S) (hU ts++ks) d
 | [],_,v,done,S,ks,d,h=>by simpa [hU] using h
 | t :: ts,ht,v,done,S,ks,d,h=>by
  simp only [hU,List.append_assoc]
  refine hp t (ht t (.head _)) _ _ _ _ _ (eZ hp ts (fun u hu=>ht u (.tail _ hu)) _ _ _ _ _ ?_)
  simpa using h
theorem yN {ts:List Tr} {e:Option Lf} (he:∀ l,e = some l→l.ok∧ts ≠ []) {S:List AFr} {ks:List Tk} {d:Tr} (h:∀ f:AFr,(f.st = 0 ∨ f.st = 2)→f.vec = false→f.tree = .list ts e→Run (f :: S) ks d):Run (⟨false,ts,0,none⟩ :: S) (A1 e++ks) d:=by
 cases e with
 | none=>exact h _ (.inl rfl) rfl rfl
 | some l =>
  obtain ⟨h1,h2⟩:=he l rfl
  exact .dot h2 (.leafT h1 (h _ (.inr rfl) rfl rfl))
theorem iE:∀ (n:Nat) (t:Tr),t.ok n→∀ v done S ks d,Run (⟨v,done++[t],0,none⟩ :: S) ks d→Run (⟨v,done,0,none⟩ :: S) (tks t++ks) d
 | n,.leaf l,ok,v,done,S,ks,d,h=>by
  have ok':l.ok:=by cases n <;> exact ok
  exact .leafP ok' h
 | n + 1,.list ts e,⟨_,o2,o3⟩,v,done,S,ks,d,h=>by
  simp only [tks,List.cons_append,List.append_assoc,List.nil_append]
  refine .op (eZ (iE n) ts o2 _ _ _ _ _ (yN o3 fun f f1 f2 f3=>.clP f1 (by rw [f2]; intro q; cases q) ?_))
  rw [f3]; exact h
 | n + 1,.vec ts,⟨_,o2⟩,v,done,S,ks,d,h=>by
  simp only [tks,List.cons_append,List.append_assoc,List.nil_append]
  exact .vop (eZ (iE n) ts o2 _ _ _ _ _ (.clP (f:=⟨true,_,0,none⟩) (.inl rfl) (fun zz=>rfl) h))
theorem EN:∀ (n:Nat) (t:Tr),t.ok n→Run [] (tks t) t
 | n,.leaf l,ok=>by
  have ok':l.ok:=by cases n <;> exact ok
  exact .leaf0 ok'
 | n + 1,.list ts e,⟨_,o2,o3⟩=>by
  simp only [tks]
  refine .op (eZ (iE n) ts o2 _ _ _ _ _ (yN o3 fun f f1 f2 f3=>?_))
  have:=Run.cl0 (f:=f) f1 (by rw [f2]; intro q; cases q)
  rw [f3] at this; exact this
 | n + 1,.vec ts,⟨_,o2⟩=>by
  simp only [tks]
  exact .vop (eZ (iE n) ts o2 _ _ _ _ _ (.cl0 (f:=⟨true,_,0,none⟩) (.inl rfl) fun zz=>rfl))
noncomputable def ge (R:List Nat):Prop:=R = [] ∨ ∃ c R',R = c :: R'∧ba c = true
theorem ez (c:Nat):ba c = [32,10,9,13,12,40,41,34,59].contains c:=by
 unfold ba
 rw [show wv.cps.toList = [32,10,9,13,12,40,41,34,59] by kernel_rfl]
 exact (List.contains_eq_mem ..).symm
theorem Bx (c:Nat):resB c = [91,93,123,125,124].contains c:=by
 unfold resB
 rw [show xl.cps.toList = [91,93,123,125,124] by kernel_rfl]
 exact (List.contains_eq_mem ..).symm
theorem cr (c:Nat):cS c = [32,10,9,13,12].contains c:=by
 unfold cS
 rw [show rh.cps.toList = [32,10,9,13,12] by kernel_rfl]
 exact (List.contains_eq_mem ..).symm
section
variable {A w R:List Nat}
theorem ko {i:Nat} (h:i < w.length):(A++(w++R))[A.length + i]? = w[i]?:=by
 rw [List.getElem?_append_right (by lia),Nat.add_sub_cancel_left,List.getElem?_append_left h]
theorem CR:(A++(w++R))[A.length + w.length]? = R.head?:=by
 rw [List.getElem?_append_right (by lia),Nat.add_sub_cancel_left,List.getElem?_append_right (by lia),Nat.sub_self,List.head?_eq_getElem?]
theorem sM:A.length + w.length≤(A++(w++R)).length:=by simp
theorem Aq {k:Nat} (hk:k≤w.length):bh (A++(w++R)) (some (A.length + k)) (some (A.length + w.length)) = w.drop k:=by
 unfold bh
 simp only [Option.getD_some]
 rw [List.drop_append,List.drop_eq_nil_of_le (by lia),List.nil_append,Nat.add_sub_cancel_left,List.drop_append_of_le_length hk,show A.length + w.length - (A.length + k) = (w.drop k).length by rw [List.length_drop]; lia]
 exact List.take_left
theorem ge.at (h:ge R):∀ c,(A++(w++R))[A.length + w.length]? = some c→ba c = true:=fun c e=>by
 rw [CR] at e
 rcases h with rfl | ⟨d,R',rfl,q⟩
 ·cases e
 ·cases e; exact q
noncomputable def oW (p:Nat→Bool):List Nat→Bool
 | c :: _=>p c
 | []=>false
theorem rU (hw:w.all (fun c=>!ba c && !resB c) = true) (h0:oW (fun c=>!dD.contains c) w = true) (hR:ge R):tI (A++(w++R)) A.length (A.length + w.length) w:=by
 refine ⟨⟨by lia,sM,fun i h1 h2=>?_,hR.at⟩,Aq (k:=0) (by lia),?_⟩
 ·obtain ⟨j,rfl⟩:∃ j,i = A.length + j:=⟨i - A.length,by lia⟩
  have hj:j < w.length:=by lia
  refine ⟨w[j],by rw [ko hj,List.getElem?_eq_getElem hj],?_⟩
  have:=List.all_eq_true.mp hw _ (List.getElem_mem hj)
  simpa using this
 ·cases w with
  | nil=>cases h0
  | cons c w =>
   refine ⟨c,?_,by simpa [oW] using h0⟩
   have:=ko (A:=A) (w:=c :: w) (R:=R) (i:=0) (by simp)
   simpa using this
end
theorem FO:eX.all (fun w=>w.all (fun c=>!ba c && !resB c) && oW (fun c=>!dD.contains c && !cS c && !(c == 59)) w && decide (w.length≤4)) = true:=by
 simp only [ez,Bx,cr]; decide +kernel
theorem Ye:(List.range 40).all (fun i=>(aH ((i:Int) - 20)).all (fun c=>!ba c && !resB c) && oW (fun c=>!dD.contains c && !cS c && !(c == 59)) (aH ((i:Int) - 20)) && decide ((aH ((i:Int) - 20)).length≤3)) = true:=by
 simp only [ez,Bx,cr]; decide +kernel
theorem XU:v6.all (fun c=>((ew c).drop 1).all (fun d=>!ba d) && decide (1≤(ew c).length) && decide ((ew c).length≤7)) = true:=by
 simp only [ez]; decide +kernel
theorem fM (c:Nat):jq c = 35 :: 92 :: ew c:=by
 unfold jq ew
 rw [show ae "#\\" = [35,92] by decide +kernel]; rfl
noncomputable def Tk.ok:Tk→Prop
 | .sym w=>w ∈ eX
 | .num k=>-20≤k∧k < 20
 | .chr c=>c ∈ v6
 | .str cs=>cs.length≤3
 | _=>True
theorem Lf.tk_ok:∀ {l:Lf},l.ok→l.tk.ok
 | .whole _,h=>h
 | .truth _,_=>trivial
 | .sym _,h=>h
 | .str _,h=>h.1
 | .chr _,h=>h
theorem wn {k:Int} (h:-20≤k∧k < 20):(aH k).all (fun c=>!ba c && !resB c) = true∧oW (fun c=>!dD.contains c && !cS c && !(c == 59)) (aH k) = true∧(aH k).length≤3:=by
 have:=List.all_eq_true.mp Ye (k + 20).toNat (List.mem_range.mpr (by lia))
 rw [show (((k + 20).toNat:Nat):Int) - 20 = k by lia] at this
 simpa only [Bool.and_eq_true,decide_eq_true_eq,and_assoc] using this
theorem uK {w:List Nat} (h:oW (fun c=>!dD.contains c && !cS c && !(c == 59)) w = true):oW (fun c=>!dD.contains c) w = true:=by
 cases w with
 | nil=>exact h
 | cons c w=>simp only [oW,Bool.and_eq_true] at h; exact h.1.1
theorem C9 {t:Tk} (h:t.ok):∃ c r,tkT t = c :: r∧c ≠ 59∧cS c = false:=by
 have lit:∀ w:List Nat,oW (fun c=>!dD.contains c && !cS c && !(c == 59)) w = true→∃ c r,w = c :: r∧c ≠ 59∧cS c = false:=fun w q=>by
  cases w with
  | nil=>cases q
  | cons c r =>
   simp only [oW,Bool.and_eq_true,Bool.not_eq_true',beq_eq_false_iff_ne] at q
   exact ⟨c,r,rfl,q.2,q.1.2⟩
 cases t with
 | op=>exact ⟨40,[],rfl,by decide,by rw [cr]; rfl⟩
 | vop=>exact ⟨35,[40],rfl,by decide,by rw [cr]; rfl⟩
 | cl=>exact ⟨41,[],rfl,by decide,by rw [cr]; rfl⟩
 | dot=>exact ⟨46,[],rfl,by decide,by rw [cr]; rfl⟩
 | sym w =>
  have:=List.all_eq_true.mp FO w h
  simp only [Bool.and_eq_true] at this
  exact lit w this.1.2
 | num k=>exact lit _ (wn h).2.1
 | bool b=>exact ⟨35,_,rfl,by decide,by rw [cr]; rfl⟩
 | chr c=>exact ⟨35,_,fM c,by decide,by rw [cr]; rfl⟩
 | str cs=>exact ⟨34,_,rfl,by decide,by rw [cr]; rfl⟩
theorem Tc {t:Tk} (h:t.ok) {A R:List Nat} (hR:ge R ∨ t = .op ∨ t = .vop):DN (A++(tkT t++R)) A.length (A.length + (tkT t).length) t:=by
 have i0:∀ {w R:List Nat} {c:Nat},w[0]? = some c→(A++(w++R))[A.length]? = some c:=fun {w R c} e=>by
  have:=ko (A:=A) (w:=w) (R:=R) (i:=0) (List.getElem?_eq_some_iff.mp e).1
  rw [Nat.add_zero] at this; rw [this,e]
 have i1:∀ {w R:List Nat} {c:Nat},w[1]? = some c→(A++(w++R))[A.length + 1]? = some c:=fun {w R c} e=>by
  rw [ko (List.getElem?_eq_some_iff.mp e).1,e]
 have no:∀ {p:Prop},t ≠ .op→t ≠ .vop→(ge R→p)→p:=fun h1 h2 k=>by
  rcases hR with q | q | q
  ·exact k q
  ·exact (h1 q).elim
  ·exact (h2 q).elim
 cases t with
 | op=>exact ⟨i0 rfl,rfl⟩
 | vop=>exact ⟨i0 rfl,i1 rfl,rfl⟩
 | cl=>exact ⟨i0 rfl,rfl⟩
 | dot=>exact no (by intro q; cases q) (by intro q; cases q) fun st=>rU (w:=[46]) (by simp only [ez,Bx]; decide +kernel) (by decide +kernel) st
 | sym w =>
  refine no (by intro q; cases q) (by intro q; cases q) fun st=>⟨h,?_⟩
  have:=List.all_eq_true.mp FO w h
  simp only [Bool.and_eq_true] at this
  refine rU (w:=w) this.1.1 (uK this.1.2) st
 | num k =>
  refine no (by intro q; cases q) (by intro q; cases q) fun st=>⟨h,?_⟩
  have:=wn h
  exact rU (w:=aH k) this.1 (uK this.2.1) st
 | bool b=>exact ⟨i0 rfl,i1 rfl,rfl⟩
 | chr c =>
  refine no (by intro q; cases q) (by intro q; cases q) fun st=>?_
  have:=List.all_eq_true.mp XU c h
  simp only [Bool.and_eq_true,decide_eq_true_eq] at this
  obtain ⟨⟨a1,a2⟩,a3⟩:=this
  show DN (A++(jq c++R)) A.length (A.length + (jq c).length) (.chr c)
  have hl:(jq c).length = (ew c).length + 2:=by rw [fM]; rfl
  refine ⟨i0 (by rw [fM]; rfl),i1 (by rw [fM]; rfl),⟨by lia,sM,fun i h1 h2=>?_,st.at⟩,?_⟩
  ·obtain ⟨j,rfl⟩:∃ j,i = A.length + (j + 3):=⟨i - A.length - 3,by lia⟩
   have hj:j + 3 < (jq c).length:=by lia
   have hd:j < ((ew c).drop 1).length:=by rw [List.length_drop]; lia
   refine ⟨((ew c).drop 1)[j],?_,by simpa using List.all_eq_true.mp a1 _ (List.getElem_mem hd)⟩
   rw [ko hj,fM,List.getElem_drop]
   show (ew c)[j + 1]? = _
   rw [List.getElem?_eq_getElem (by lia)]
   congr 1
   congr 1
   lia
  ·rw [show A.length + 2 = A.length + 2 from rfl,Aq (by lia),fM]; rfl
 | str cs =>
  refine ⟨⟨fun i hi=>ko hi,sM⟩,by have:cs.length≤3:=h; lia,rfl⟩
theorem yT {A bl R:List Nat} (hb:∀ c ∈ bl,c = 32 ∨ c = 10) (hR:∀ c,R.head? = some c→c ≠ 59∧cS c = false):Skip (A++(bl++R)) A.length (A.length + bl.length):=by
 refine ⟨fun i h1 h2=>?_,by lia,sM,fun c e=>hR c (by rw [← e,CR])⟩
 obtain ⟨j,rfl⟩:∃ j,i = A.length + j:=⟨i - A.length,by lia⟩
 have hj:j < bl.length:=by lia
 rw [ko hj,List.getElem?_eq_getElem hj]
 exact (hb _ (List.getElem_mem hj)).imp (congrArg some) (congrArg some)
theorem eA {t:Tk} (h:t.ok) {A bl R:List Nat} (hb:∀ c ∈ bl,c = 32 ∨ c = 10) (hR:ge R ∨ t = .op ∨ t = .vop):Toks (A++(bl++(tkT t++R))) A.length [t] (A.length + bl.length + (tkT t).length):=by
 obtain ⟨c,r,e,h1,h2⟩:=C9 h
 refine .cons (yT hb fun d hd=>?_) (e:=A.length + bl.length + (tkT t).length) ?_ .nil
 ·rw [e] at hd; cases hd; exact ⟨h1,h2⟩
 ·have:=Tc h (A:=A++bl) (R:=R) hR
  simpa only [List.append_assoc,List.length_append] using this
theorem Toks.app {T:List Nat} {p q r:Nat} {ks ks':List Tk} (h:Toks T p ks q) (k:Toks T q ks' r):Toks T p (ks++ks') r:=by
 induction h with
 | nil=>exact k
 | cons a b _ ih=>exact .cons a b (ih k)
theorem Toks.cast {T T':List Nat} {p p' q q':Nat} {ks:List Tk} (h:Toks T p ks q) (e1:T = T') (e2:p = p') (e3:q = q'):Toks T' p' ks q':=by
 subst e1 e2 e3; exact h
noncomputable def TX (w:List Nat) (ks:List Tk):Prop:=∀ A bl R,(∀ c ∈ bl,c = 32 ∨ c = 10)→ge R→Toks (A++(bl++(w++R))) A.length ks (A.length + bl.length + w.length)
theorem bl0:∀ c ∈ ([]:List Nat),c = 32 ∨ c = 10:=fun c h=>by cases h
theorem bl1:∀ c ∈ ([32]:List Nat),c = 32 ∨ c = 10:=fun c h=>.inl (by simpa using h)
theorem dG {c:Nat} {R:List Nat} (h:ba c = true):ge (c :: R):=.inr ⟨c,R,rfl,h⟩
theorem d32:ba 32 = true:=by rw [ez]; rfl
theorem d41:ba 41 = true:=by rw [ez]; rfl
theorem qR:∀ (ts:List Tr),(∀ t ∈ ts,TX (tx t) (tks t))→∀ A R,ge R→Toks (A++(txr ts++R)) A.length (hU ts) (A.length + (txr ts).length)
 | [],_,A,R,_=>by simp only [txr,hU,List.nil_append,List.length_nil,Nat.add_zero]; exact .nil
 | t :: ts,h,A,R,hR=>by
  have hs:ge (txr ts++R):=by
   cases ts with
   | nil=>simpa [txr] using hR
   | cons u us=>simp only [txr,List.cons_append]; exact dG d32
  have h1:=h t (.head _) A [32] (txr ts++R) bl1 hs
  have h2:=qR ts (fun u hu=>h u (.tail _ hu)) (A++([32]++tx t)) R hR
  simp only [txr,hU]
  refine (h1.cast (by simp) rfl rfl).app (h2.cast (by simp) (by simp; lia) (by simp; lia))
theorem nZ:∀ (ts:List Tr),(∀ t ∈ ts,TX (tx t) (tks t))→∀ A R,ge R→Toks (A++(txs ts++R)) A.length (hU ts) (A.length + (txs ts).length)
 | [],_,A,R,_=>by simp only [txs,hU,List.nil_append,List.length_nil,Nat.add_zero]; exact .nil
 | t :: ts,h,A,R,hR=>by
  have hs:ge (txr ts++R):=by
   cases ts with
   | nil=>simpa [txr] using hR
   | cons u us=>simp only [txr,List.cons_append]; exact dG d32
  have h1:=h t (.head _) A [] (txr ts++R) bl0 hs
  have h2:=qR ts (fun u hu=>h u (.tail _ hu)) (A++tx t) R hR
  simp only [txs,hU]
  refine (h1.cast (by simp) rfl rfl).app (h2.cast (by simp) (by simp) (by simp; lia))
theorem BK {e:Option Lf} (he:∀ l,e = some l→l.ok) (A R:List Nat) (hR:ge R):Toks (A++(gs e++R)) A.length (A1 e) (A.length + (gs e).length):=by
 cases e with
 | none=>exact .nil
 | some l =>
  have h1:=eA (t:=.dot) trivial (A:=A) (bl:=[32]) (R:=32 :: (tkT l.tk++R)) bl1 (.inl (dG d32))
  have h2:=eA (Lf.tk_ok (he l rfl)) (A:=A++[32,46]) (bl:=[32]) (R:=R) bl1 (.inl hR)
  exact (h1.cast (by simp [gs,tkT]) rfl rfl).app (h2.cast (by simp [gs,tkT]) (by simp [tkT]) (by simp [gs]; lia))
theorem t4:∀ (n:Nat) (t:Tr),t.ok n→TX (tx t) (tks t)
 | n,.leaf l,ok,A,bl,R,hb,hR=>by
  have ok':l.ok:=by cases n <;> exact ok
  simp only [tx,tks]
  exact eA (Lf.tk_ok ok') hb (.inl hR)
 | n + 1,.list ts e,⟨_,o2,o3⟩,A,bl,R,hb,hR=>by
  simp only [tx,tks]
  have h1:=eA (t:=.op) trivial (A:=A) (bl:=bl) (R:=txs ts++(gs e++[41])++R) hb (.inr (.inl rfl))
  have hs:ge (gs e++([41]++R)):=by
   cases e with
   | none=>exact dG d41
   | some l=>exact dG d32
  have h2:=nZ ts (fun u hu=>t4 n u (o2 u hu)) (A++(bl++[40])) (gs e++([41]++R)) hs
  have h3:=BK (fun l q=>(o3 l q).1) (A++(bl++([40]++txs ts))) ([41]++R) (dG d41)
  have h4:=eA (t:=.cl) trivial (A:=A++(bl++([40]++(txs ts++gs e)))) (bl:=[]) (R:=R) bl0 (.inl hR)
  refine (h1.cast (by simp [tkT]) rfl rfl).app ((h2.cast (by simp [tkT]) (by simp [tkT]; lia) rfl).app ((h3.cast (by simp [tkT]) (by simp [tkT]; lia) rfl).app (h4.cast (by simp [tkT]) (by simp [tkT]; lia) (by simp [tkT]; lia))))
 | n + 1,.vec ts,⟨_,o2⟩,A,bl,R,hb,hR=>by
  simp only [tx,tks]
  have h1:=eA (t:=.vop) trivial (A:=A) (bl:=bl) (R:=txs ts++[41]++R) hb (.inr (.inr rfl))
  have h2:=nZ ts (fun u hu=>t4 n u (o2 u hu)) (A++(bl++[35,40])) ([41]++R) (dG d41)
  have h4:=eA (t:=.cl) trivial (A:=A++(bl++([35,40]++txs ts))) (bl:=[]) (R:=R) bl0 (.inl hR)
  refine (h1.cast (by simp [tkT]) rfl rfl).app ((h2.cast (by simp [tkT]) (by simp [tkT]; lia) rfl).app (h4.cast (by simp [tkT]) (by simp [tkT]; lia) (by simp [tkT]; lia)))
noncomputable def tA:Nat→Nat
 | 0=>9
 | n + 1=>3 * (tA n + 1) + 14
noncomputable def rr:Nat→Nat
 | 0=>1
 | n + 1=>3 * rr n + 4
theorem wE:∀ {l:Lf},l.ok→(tkT l.tk).length≤9
 | .whole k,h=>Nat.le_trans (wn h).2.2 (by decide)
 | .truth _,_=>by show 2≤9; decide
 | .sym w,h=>by
  have:=List.all_eq_true.mp FO w h
  simp only [Bool.and_eq_true,decide_eq_true_eq] at this
  exact Nat.le_trans this.2 (by decide)
 | .str cs,h=>by
  have:=rk cs
  have h1:=h.1
  show (34 :: esc cs++[34]).length≤9
  simp; lia
 | .chr c,_=>vL
theorem yg {b:Nat}:∀ {ts:List Tr},(∀ t ∈ ts,(tx t).length≤b)→(txr ts).length≤ts.length * (b + 1)
 | [],_=>by simp [txr]
 | t :: ts,h=>by
  have h1:=h t (.head _)
  have h2:=yg (ts:=ts) fun u hu=>h u (.tail _ hu)
  simp only [txr,List.length_cons,List.length_append,Nat.add_mul]
  lia
theorem yr {b:Nat} {ts:List Tr} (h:∀ t ∈ ts,(tx t).length≤b):(txs ts).length≤ts.length * (b + 1):=by
 cases ts with
 | nil=>simp [txs]
 | cons t ts =>
  have:=yg h
  simp only [txr,txs,List.length_cons] at this ⊢
  lia
theorem B6 {e:Option Lf} (he:∀ l,e = some l→l.ok):(gs e).length≤12:=by
 cases e with
 | none=>simp [gs]
 | some l=>have:=wE (he l rfl); simp [gs]; lia
theorem xP {a b:Nat} (h:a≤3):a * b≤3 * b:=Nat.mul_le_mul_right _ h
theorem tc:∀ (n:Nat) (t:Tr),t.ok n→(tx t).length≤tA n
 | 0,.leaf l,ok=>by simp only [tx]; exact wE ok
 | n + 1,.leaf l,ok=>by simp only [tx,tA]; have:=wE (l:=l) ok; lia
 | n + 1,.list ts e,⟨o1,o2,o3⟩=>by
  have h1:=yr fun u hu=>tc n u (o2 u hu)
  have h2:=B6 fun l q=>(o3 l q).1
  have h3:=xP (b:=tA n + 1) o1
  simp only [tx,tA,List.length_cons,List.length_append,List.length_nil]
  lia
 | n + 1,.vec ts,⟨o1,o2⟩=>by
  have h1:=yr fun u hu=>tc n u (o2 u hu)
  have h3:=xP (b:=tA n + 1) o1
  simp only [tx,tA,List.length_cons,List.length_append,List.length_nil]
  lia
theorem mW {b:Nat}:∀ {ts:List Tr},(∀ t ∈ ts,(tks t).length≤b)→(hU ts).length≤ts.length * b
 | [],_=>by simp [hU]
 | t :: ts,h=>by
  have h1:=h t (.head _)
  have h2:=mW (ts:=ts) fun u hu=>h u (.tail _ hu)
  simp only [hU,List.length_cons,List.length_append,Nat.add_mul]
  lia
theorem tV:∀ (n:Nat) (t:Tr),t.ok n→(tks t).length≤rr n
 | 0,.leaf l,ok=>by simp [tks,rr]
 | n + 1,.leaf l,ok=>by simp only [tks,rr,List.length_cons,List.length_nil]; lia
 | n + 1,.list ts e,⟨o1,o2,o3⟩=>by
  have h1:=mW fun u hu=>tV n u (o2 u hu)
  have h2:(A1 e).length≤2:=by cases e <;> simp [A1]
  have h3:=xP (b:=rr n) o1
  simp only [tks,rr,List.length_cons,List.length_append,List.length_nil]
  lia
 | n + 1,.vec ts,⟨o1,o2⟩=>by
  have h1:=mW fun u hu=>tV n u (o2 u hu)
  have h3:=xP (b:=rr n) o1
  simp only [tks,rr,List.length_cons,List.length_append,List.length_nil]
  lia
end
section
set_option bootstrap.genMatcherCode false
variable {H:HS} {G:Gs} {Z:List Nat}
theorem Cc:∀ c ∈ CE,c≤1114111:=by decide
theorem Qk:∀ c ∈ v6,c≤1114111:=by decide
theorem yJ (hs:∀ g ∈ G,∃ a,H[g.2]? = some (.inst 219 [lv' "number" a,lv' "text" (.str g.1)])):∀ {l:Lf} {v:AV},l.ok→LfD G l v→AtomT H v (tkT l.tk)
 | .whole k,_,ok,rfl=>.int (by have h1:-20≤k:=ok.1; have h2:k < 20:=ok.2; lia)
 | .truth true,_,_,rfl=>by have:=AtomT.tru (H:=H); rwa [show ae "#t" = [35,116] by decide +kernel] at this
 | .truth false,_,_,rfl=>by have:=AtomT.fls (H:=H); rwa [show ae "#f" = [35,102] by decide +kernel] at this
 | .sym w,_,ok,⟨k,rfl,hk⟩=>by
  obtain ⟨a,ha⟩:=hs _ (jl hk)
  have:=List.all_eq_true.mp FO w ok
  simp only [Bool.and_eq_true,decide_eq_true_eq] at this
  exact .sym ha (Nat.le_trans this.2 (by decide))
 | .str cs,_,ok,rfl=>.text (by have:=ok.1; lia) fun c hc=>Cc c (ok.2 c hc)
 | .chr c,_,ok,rfl=>.char (Qk c ok)
theorem S9:∀ {l:Lf} {v:AV},LfD G l v→v ≠ .val (.ref 195)
 | .whole _,_,rfl=>by intro q; cases q
 | .truth _,_,rfl=>by intro q; cases q
 | .sym _,_,⟨_,rfl,_⟩=>by intro q; cases q
 | .str _,_,rfl=>by intro q; cases q
 | .chr _,_,rfl=>by intro q; cases q
noncomputable def wrB:Nat→Nat
 | 0=>1
 | n + 1=>3 * (wrB n + 1) + 3
noncomputable def TW (H:HS) (b:Nat) (t:Tr) (v:AV):Prop:=∃ k,k≤b∧Wr H (.item (.tup [.int 1,v])) (tx t) k
theorem yP (hs:∀ g ∈ G,∃ a,H[g.2]? = some (.inst 219 [lv' "number" a,lv' "text" (.str g.1)])) {b:Nat} {e:Option Lf} {ev:AV} (hok:∀ l,e = some l→l.ok) (he:lT G e ev) :
  ∀ {ts:List Tr} {vs:List AV},hF (TW H b) ts vs→∃ k,k≤ts.length * (b + 1) + 3∧Wr H (.item (.tup [.int 2,fG vs ev])) (txr ts++(gs e++[41])) k
 | [],[],_=>by
  cases e with
  | none=>cases he; exact ⟨1,by simp,.nil⟩
  | some l=>exact ⟨3,by simp,.tatom (yJ hs (hok l rfl) he) (S9 he)⟩
 | t :: ts,v :: vs,h=>by
  obtain ⟨k1,h1,w1⟩:=h.2 0 t v rfl rfl
  obtain ⟨k2,h2,w2⟩:=yP hs hok he (ts:=ts) (vs:=vs) ⟨by have:=h.1; simpa using this,fun i t v a c=>h.2 (i + 1) t v (by simpa using a) (by simpa using c)⟩
  refine ⟨k1 + k2 + 1,?_,?_⟩
  ·rw [List.length_cons,Nat.add_mul]; lia
  ·simp only [txr,List.cons_append,List.append_assoc]
   exact .tpair w1 w2
 | [],_ :: _,h=>by have:=h.1; simp at this
 | _ :: _,[],h=>by have:=h.1; simp at this
theorem z6 (t u:Tr) (ts:List Tr):txs (t :: u :: ts) = tx t++32 :: txs (u :: ts):=by simp only [txs,txr]
theorem CM {b:Nat}:∀ {ts:List Tr} {vs:List AV},hF (TW H b) ts vs→∃ k,k≤ts.length * (b + 1)∧Wr H (.seq vs) (txs ts) k
 | [],[],_=>⟨0,by simp,.seq0⟩
 | [t],[v],h=>by
  obtain ⟨k1,h1,w1⟩:=h.2 0 t v rfl rfl
  refine ⟨k1,by simp; lia,?_⟩
  simp only [txs,txr,List.append_nil]
  exact .seq1 w1
 | t :: u :: ts,v :: w :: vs,h=>by
  obtain ⟨k1,h1,w1⟩:=h.2 0 t v rfl rfl
  obtain ⟨k2,h2,w2⟩:=CM (ts:=u :: ts) (vs:=w :: vs) ⟨by have:=h.1; simpa using this,fun i t v a c=>h.2 (i + 1) t v (by simpa using a) (by simpa using c)⟩
  refine ⟨k1 + k2 + 1,?_,?_⟩
  ·rw [List.length_cons,Nat.add_mul]; lia
  ·rw [z6]
   exact .seq2 w1 w2
 | [],_ :: _,h=>by have:=h.1; simp at this
 | _ :: _,[],h=>by have:=h.1; simp at this
 | [_],_ :: _ :: _,h=>by have:=h.1; simp at this
 | _ :: _ :: _,[_],h=>by have:=h.1; simp at this
set_option tactic.hygienic true in
theorem t7 (hs:∀ g ∈ G,∃ a,H[g.2]? = some (.inst 219 [lv' "number" a,lv' "text" (.str g.1)])):∀ (n:Nat) (t:Tr) (v:AV),t.ok n→DatR [] H G t v→TW H (wrB n) t v
 | n,.leaf l,v,ok,h=>by
  have ok':l.ok:=by cases n <;> exact ok
  have hb:1≤wrB n:=by cases n <;> simp [wrB]
  cases h with
  | leaf h =>
   refine ⟨1,hb,?_⟩
   simp only [tx]
   exact .atom (yJ hs ok' h)
 | n + 1,.list ts e,v,⟨o1,o2,o3⟩,h=>by
  cases h with
  | list hl hh he =>
   rename_i vs ev
   have hm:hF (TW H (wrB n)) ts vs:=⟨hl,fun i t v a c=>t7 hs n t v (o2 t (List.mem_of_getElem? a)) (hh i t v a c)⟩
   cases ts with
   | nil =>
    cases vs with
    | cons _ _=>simp at hl
    | nil =>
     cases e with
     | some l=>exact ((o3 l rfl).2 rfl).elim
     | none =>
      cases he
      refine ⟨1,by simp only [wrB]; lia,?_⟩
      simp only [tx,txs,gs,List.nil_append]
      have:=AtomT.empty (H:=H)
      rw [show ae "()" = [40,41] by decide +kernel] at this
      exact .atom this
   | cons t ts =>
    cases vs with
    | nil=>simp at hl
    | cons v vs =>
     obtain ⟨k1,h1,w1⟩:=hm.2 0 t v rfl rfl
     obtain ⟨k2,h2,w2⟩:=yP hs (fun l q=>(o3 l q).1) he (ts:=ts) (vs:=vs) ⟨by have:=hm.1; simpa using this,fun i t v a c=>hm.2 (i + 1) t v (by simpa using a) (by simpa using c)⟩
     have h3:=xP (b:=wrB n + 1) o1
     refine ⟨k1 + k2 + 1,?_,?_⟩
     ·simp only [wrB]
      rw [List.length_cons,Nat.add_mul] at h3
      lia
     ·simp only [tx,txs,List.append_assoc]
      exact .pair w1 w2
 | n + 1,.vec ts,v,⟨o1,o2⟩,h=>by
  cases h with
  | vec hx hk hl hh =>
   rename_i vs x m
   have hm:hF (TW H (wrB n)) ts vs:=⟨hl,fun i t v a c=>t7 hs n t v (o2 t (List.mem_of_getElem? a)) (hh i t v a c)⟩
   rcases hx with rfl | ⟨k,_,q,_⟩
   ·obtain ⟨k,h1,w1⟩:=CM hm
    have h3:=xP (b:=wrB n + 1) o1
    refine ⟨k + 2,by simp only [wrB]; lia,?_⟩
    simp only [tx]
    exact .vec hk w1
   ·cases q
end
section
set_option bootstrap.genMatcherCode false
theorem af.split {P:Params} {F:FF} {c:AV} {bs:List AV}:∀ {as:List AV} {vs:List Value},af P F vs (as++c :: bs)→∃ v1 v v2,vs = v1++v :: v2∧af P F v1 as∧AVR P F v c∧af P F v2 bs
 | [],_,h=>by
  simp only [List.nil_append,af] at h
  obtain ⟨v,r,rfl,h1,h2⟩:=h
  exact ⟨[],v,r,rfl,.nil,h1,h2⟩
 | a :: as,_,h=>by
  simp only [List.cons_append,af] at h
  obtain ⟨v,r,rfl,h1,h2⟩:=h
  obtain ⟨v1,w,v2,rfl,k1,k2,k3⟩:=af.split h2
  exact ⟨v :: v1,w,v2,rfl,.cons h1 k1,k2,k3⟩
theorem aJ.layT {B:Base} {n:Nat} {H:HS} {args:List AV} {g:Value} {Q:AV→HS→Prop} (h:HWf H→AV.bds H.length args→aJ B n g args H fun a H'=>(∃ H2 xs as bs,a = .tup (as++.cell H2.length :: bs)∧H' = H2++[.list xs]∧H.length≤H2.length∧HWf H2∧AV.bds H2.length xs∧AV.bds H2.length as∧AV.bds H2.length bs∧Q (.tup (as++.lst xs :: bs)) H2) ∨ Q a H'):aJ B n g args H Q :=
 fun A hp F s vs hA R hv=>by
 have hb:=hv.bds
 rw [R.hl] at hb
 refine codeAny_mono (h R.wf hb A hp F s vs hA R hv) fun r s' z=>?_
 cases r with
 | error e=>exact z
 | ok fl =>
  cases fl with
  | ret v =>
   obtain ⟨F',b,H',g',R',hb',z⟩:=z
   rcases z with ⟨H2,xs,as,bs,rfl,rfl,hl,hw,hx,h1,h2,q⟩ | q
   ·obtain ⟨p,hi,hd,hc⟩:=tj R'
    obtain ⟨hf,hn⟩:=jG R' hd hi
    refine ⟨F'.lay H2.length p s'.heap,_,H2,R'.dropGrow g' (by rw [R.hl]; exact hl) rfl hf hn,R'.drop hw rfl hf hn,?_,q⟩
    simp only [VR,AVR] at hb' ⊢
    obtain ⟨a,o,k,items,rfl,e2,e3,e4,e5⟩:=hb'
    obtain ⟨v1,v,v2,rfl,k1,k2,k3⟩:=e5.split
    have cut:=rH hf
    exact ⟨a,o,k,_,rfl,hf _ _ e2,e3,e4,(k1.cut cut h1).app (.cons (qM hi hc cut hx k2) (k3.cut cut h2))⟩
   ·exact ⟨F',b,H',g',R',hb',q⟩
  | _=>exact z
theorem rE {B:Base} {n:Nat} {sc sc':List (Str × NameKind)} {loc:Loc} {H:HS} {elt iter:Expr} {tp pos xp pos':Pos} {t x:Str} {scope:Scope} {fr:List (Str × AV)} {Q:AF→Loc→HS→Prop} (ok:CompOk scope sc loc sc' (cu fr [t])) (ht:(t,NameKind.local) ∈ sc') (hl:(x,NameKind.local) ∈ sc)
  (h:ITV B n sc loc H (.Name t tp) iter fun nxt H1=>∃ (xs:List AV) (I:Nat→List AV→HS→Prop),xs.length≤100000∧I 0 [] (H1++[.list []])∧(∀ i ys H2,I i ys H2→H2[H1.length]? = some (.list ys)→nxt i H2 = some xs[i]?∧∀ a,xs[i]? = some a →
    EV B n sc' (fr.map (fun p=>(p.1,some p.2))++[(t,some a)]) H2 elt fun y H4=>H4[H1.length]? = some (.list ys)∧I (i + 1) (ys++[y]) (H4.set H1.length (.list (ys++[y]))))∧∀ ys H2,I xs.length ys H2→H2[H1.length]? = some (.list ys)→∃ loc',Up x (.cell H1.length) loc loc'∧Q .next loc' H2)
  (hsw:∀ env:Env,env.scope.kind = .function→env.kindOf x = some .local→swapsWith (.ListComp elt [⟨.Name t tp,iter,[],0⟩] scope pos) (some (.Name x xp)) pos'.line env = pure true)
  (hs:∀ env x,foldedSetIterable iter env x = pure x:=by intro _ _; rfl):XO B n sc loc H (.Assign [.Name x xp] (.ListComp elt [⟨.Name t tp,iter,[],0⟩] scope pos) pos') Q:=by
 refine gE ok hl (fun A hp F s env hA R=>wpAny_mono (h A hp F s env hA R) (fun x s1 h1=>wpAny_mono h1 ?_ fun zz zz e=>e) fun zz zz e=>e) hs hsw
 rintro it s2 ⟨F',H1,ps,J1,J2,nxt,g,R1,P1,S,i0,xs,I,hz,z0,st,fin⟩
 refine ⟨F',H1,ps,J1,J2,nxt,g,R1,P1,S,i0,fun i l H2=>i≤xs.length∧∃ ys o,ys.length = i∧l = fr.map (fun p=>(p.1,some p.2))++[(t,o)]∧I i ys H2∧H2[H1.length]? = some (.list ys),xs.length,⟨Nat.zero_le _,[],none,rfl,rfl,z0,aB⟩,?_⟩
 rintro i l H2 ⟨hi,ys,o,hl,rfl,k,e⟩
 obtain ⟨hn,q⟩:=st i ys H2 k e
 rw [hn]
 cases hx:xs[i]? with
 | none =>
  have:i = xs.length:=Nat.le_antisymm hi (List.getElem?_eq_none_iff.mp hx)
  subst this
  exact fin ys H2 k e
 | some a =>
  have hlt:i < xs.length:=(List.getElem?_eq_some_iff.mp hx).1
  refine ⟨hlt,_,.name ht rx,?_⟩
  simp only [gG,if_true]
  refine FV.mono (q a hx) ?_
  rintro y H4 ⟨e4,i4⟩
  exact ⟨ys,e4,by lia,hlt,ys++[y],some a,by simp [hl],rfl,i4,aj e4⟩
noncomputable def be:Lf→AV
 | .whole k=>.tup [.str (ae "whole"),.int k]
 | .truth b=>.tup [.str (ae "truth"),.bool b]
 | .sym w=>.tup [.str (ae "symbol"),.str w]
 | .str cs=>.tup [.str (ae "string"),.lst (ai cs)]
 | .chr c=>.tup [.str (ae "char"),.int (c:Int)]
noncomputable def lF:Option Lf→AV
 | none=>.none
 | some l=>be l
mutual
noncomputable def trA:Tr→AV
 | .leaf l=>be l
 | .list ts e=>.tup [.str (ae "list"),.lst (bE ts),lF e]
 | .vec ts=>.tup [.str (ae "vector"),.lst (bE ts)]
noncomputable def bE:List Tr→List AV
 | []=>[]
 | t :: ts=>trA t :: bE ts
end
theorem iF:∀ ts:List Tr,bE ts = ts.map trA
 | []=>rfl
 | t :: ts=>by simp only [bE,List.map_cons,iF ts]
theorem cG (ts:List Tr):(bE ts).length = ts.length:=by rw [iF,List.length_map]
theorem zG (ts:List Tr) (t:Tr):bE (ts++[t]) = bE ts++[trA t]:=by simp [iF]
theorem CN {m:Nat} {xs:List AV} (h:∀ a ∈ xs,a.bd m):AV.bds m xs:=AV.bds_iff.mpr h
theorem m6 {m:Nat}:∀ {l:Lf},(be l).bd m
 | .whole _=>by simp [be,AV.bd,AV.bds]
 | .truth _=>by simp [be,AV.bd,AV.bds]
 | .sym _=>by simp [be,AV.bd,AV.bds]
 | .str _=>by simp only [be,AV.bd,AV.bds]; exact ⟨trivial,cH,trivial⟩
 | .chr _=>by simp [be,AV.bd,AV.bds]
theorem Fz {m:Nat}:∀ {e:Option Lf},(lF e).bd m
 | none=>by simp [lF,AV.bd]
 | some _=>m6
mutual
theorem Pc {m:Nat}:∀ (t:Tr),(trA t).bd m
 | .leaf l=>by simp only [trA]; exact m6
 | .list ts e=>by simp only [trA,AV.bd,AV.bds]; exact ⟨trivial,ey ts,Fz,trivial⟩
 | .vec ts=>by simp only [trA,AV.bd,AV.bds]; exact ⟨trivial,ey ts,trivial⟩
theorem ey {m:Nat}:∀ (ts:List Tr),AV.bds m (bE ts)
 | []=>by simp only [bE,AV.bds]
 | t :: ts=>by simp only [bE,AV.bds]; exact ⟨Pc t,ey ts⟩
end
theorem HWf.sb {d r:Nat} {H H3:HS} (h:HWf H) (s:SB d H H3) (k:bv H3 d r):HWf H3:=fun c hc=>by
 obtain ⟨j,hj,e⟩:=List.getElem_of_mem hc
 have e':H3[j]? = some c:=by rw [List.getElem?_eq_getElem hj,e]
 by_cases q:j = d
 ·subst q
  obtain ⟨xs,p,e2,_⟩:=k
  rw [e'] at e2; cases e2
  simp only [Cell.bd,AV.bds,AV.bd]
  refine ⟨CN fun a ha=>?_,trivial,trivial⟩
  obtain ⟨x,_,rfl⟩:=List.mem_map.mp ha
  simp only [AV.bd]
 ·rw [s.2 j q] at e'
  have:=h c (List.mem_of_getElem? e')
  rw [s.1]; exact this
end
section
set_option bootstrap.genMatcherCode false
theorem E7:eX.all (fun w=>w.all (fun c=>decide (c≤1114111))) = true:=by decide +kernel
theorem ET:(List.range 40).all (fun i=>(aH ((i:Int) - 20)).all (fun c=>decide (c≤1114111))) = true:=by decide +kernel
theorem Fe:v6.all (fun c=>(jq c).all (fun c=>decide (c≤1114111))) = true:=by decide +kernel
theorem x0 {w:List Nat} (h:w.all (fun c=>decide (c≤1114111)) = true):∀ c ∈ w,c≤1114111:=fun c hc=>by simpa using List.all_eq_true.mp h c hc
theorem yU {c:Nat}:∀ {cs:List Nat},c ∈ esc cs→c ∈ cs ∨ c = 92
 | [],h=>by cases h
 | d :: cs,h=>by
  rw [esc,List.mem_append] at h
  rcases h with h | h
  ·split at h
   ·rcases List.mem_cons.mp h with rfl | h
    ·exact .inr rfl
    ·exact .inl (by simp at h; simp [h])
   ·exact .inl (by simp at h; simp [h])
  ·exact (yU h).imp (.tail _) id
theorem Mp:∀ {l:Lf},l.ok→∀ c ∈ tkT l.tk,c≤1114111
 | .whole k,h=>by
  have:=List.all_eq_true.mp ET (k + 20).toNat (List.mem_range.mpr (by have h1:-20≤k:=h.1; have h2:k < 20:=h.2; lia))
  rw [show (((k + 20).toNat:Nat):Int) - 20 = k by have h1:-20≤k:=h.1; lia] at this
  exact x0 this
 | .truth b,_=>by intro c hc; have hc:c ∈ [35,if b = true then 116 else 102]:=hc; simp at hc; split at hc <;> lia
 | .sym w,h=>x0 (List.all_eq_true.mp E7 w h)
 | .chr c,h=>x0 (List.all_eq_true.mp Fe c h)
 | .str cs,h=>by
  intro c hc
  have hc:c ∈ 34 :: esc cs++[34]:=hc
  rw [List.cons_append,List.mem_cons,List.mem_append,List.mem_singleton] at hc
  rcases hc with rfl | hc | rfl
  ·decide
  ·rcases yU hc with q | rfl
   ·exact Cc c (h.2 c q)
   ·decide
  ·decide
theorem Et:∀ {ts:List Tr},(∀ t ∈ ts,∀ c ∈ tx t,c≤1114111)→∀ c ∈ txr ts,c≤1114111
 | [],_,c,h=>by simp [txr] at h
 | t :: ts,k,c,h=>by
  simp only [txr,List.mem_cons,List.mem_append] at h
  rcases h with rfl | h | h
  ·decide
  ·exact k t (.head _) c h
  ·exact Et (fun u hu=>k u (.tail _ hu)) c h
theorem Co {ts:List Tr} (k:∀ t ∈ ts,∀ c ∈ tx t,c≤1114111):∀ c ∈ txs ts,c≤1114111:=by
 cases ts with
 | nil=>intro c h; simp [txs] at h
 | cons t ts=>intro c h; exact Et k c (by simp only [txs] at h; simp only [txr]; exact .tail _ h)
theorem Bb:∀ (n:Nat) (t:Tr),t.ok n→∀ c ∈ tx t,c≤1114111
 | n,.leaf l,ok,c,h=>by
  have ok':l.ok:=by cases n <;> exact ok
  simp only [tx] at h
  exact Mp ok' c h
 | n + 1,.list ts e,⟨_,o2,o3⟩,c,h=>by
  simp only [tx,List.mem_cons,List.mem_append,List.not_mem_nil,or_false] at h
  rcases h with rfl | h | h | rfl
  ·decide
  ·exact Co (fun u hu=>Bb n u (o2 u hu)) c h
  ·cases e with
   | none=>cases h
   | some l =>
    simp only [gs,List.mem_cons] at h
    rcases h with rfl | rfl | rfl | h
    ·decide
    ·decide
    ·decide
    ·exact Mp (o3 l rfl).1 c h
  ·decide
 | n + 1,.vec ts,⟨_,o2⟩,c,h=>by
  simp only [tx,List.mem_cons,List.mem_append,List.not_mem_nil,or_false] at h
  rcases h with rfl | rfl | h | rfl
  ·decide
  ·decide
  ·exact Co (fun u hu=>Bb n u (o2 u hu)) c h
  ·decide
theorem z9 {t:Tr} (ok:t.ok 2) {cs A bl R:List Nat} (e:cs = A++(bl++(tx t++R))) (hb:∀ c ∈ bl,c = 32 ∨ c = 10) (hR:ge R):Toks (cs.drop A.length) 0 (tks t) (bl.length + (tx t).length):=by
 subst e
 rw [List.drop_left]
 have:=t4 2 t ok [] bl R hb hR
 simpa using this
theorem zD {cs A bl:List Nat} (e:cs = A++bl) (hb:∀ c ∈ bl,c = 32 ∨ c = 10):Skip (cs.drop A.length) 0 (cs.drop A.length).length:=by
 subst e
 rw [List.drop_left]
 have:=yT (A:=[]) (R:=[]) hb (fun c h=>by cases h)
 simpa using this
end
section
set_option bootstrap.genMatcherCode false
variable {n:Nat} {H:HS} {Q:AV→HS→Prop}
theorem El {rd lx tb f0 p:Nat} {T:List Nat} (hn:5≤n) (hz:T.length≤100000) (hr:H[rd]? = some (rdI lx tb f0)) (hl:H[lx]? = some (lxI T p)) (hs:Skip T p T.length)
  (h:Q (.val (.ref 201)) (((H++[Cell.list []]).set rd (rdI lx tb H.length)).set lx (lxI T T.length))):ac (BB W) n (.ref 1112) [.cell rd] H Q:=by
 have hrl:=ar hr
 have hl1:((H++[Cell.list []]).set rd (rdI lx tb H.length))[lx]? = some (lxI T p):=ao (aF hr hl (by unfold rdI lxI; intro q; cases q)) (aw hl)
 have hr1:((H++[Cell.list []]).set rd (rdI lx tb H.length))[rd]? = some (rdI lx tb H.length):=aj (aw hr)
 have hf1:((H++[Cell.list []]).set rd (rdI lx tb H.length))[H.length]? = some (.list []):=ao (by tm_at "o") aB
 have hr2:(((H++[Cell.list []]).set rd (rdI lx tb H.length)).set lx (lxI T T.length))[rd]? = some (rdI lx tb H.length):=ao (aF hl1 hr1 (by unfold rdI lxI; intro q; cases q)) hr1
 have hf2:(((H++[Cell.list []]).set rd (rdI lx tb H.length)).set lx (lxI T T.length))[H.length]? = some (.list []):=ao (aF hl1 hf1 (by unfold lxI; intro q; cases q)) hf1
 have hr0:=hr
 unfold rdI at hr
 refine ab fc (by tm_at "o") ?_
 tm_at "in"
 refine aR (aU ⟨by decide,?_⟩)
 tm_at "ww"
 change XO _ _ _ _ ((H++[Cell.list []]).set rd (rdI lx tb H.length)) _ _
 generalize hG:(H++[Cell.list []]).set rd (rdI lx tb H.length) = H1 at *
 refine bI (fun m loc H2=>loc = [lq "self" (some (.cell rd)),lq "token" none,lq "datum" none]∧H2 = H1) 0 ⟨rfl,rfl⟩ ?_
 rintro m _ _ ⟨rfl,rfl⟩
 have hr3:=hr1
 have hl3:=hl1
 have hr4:=hr2
 unfold rdI at hr3 hr4
 unfold lxI at hl3
 tm_at "ww"
 refine zX (s:=0) (by tm_at "o") hz hs hl1 ?_
 tm_at "ww"
 exact h
theorem pZ {sg tb pt ti op k o p:Nat} {cs:List Nat} (hn:14≤n) (hs:H[sg]? = some (bL tb pt ti op)) (hp:PortAt H sg k o) (ho:H[o]? = some (inI (.lst (ai cs)) p)) (hz:cs.length≤100000) (hv:∀ c ∈ cs,c≤1114111) (hsk:Skip (cs.drop p) 0 (cs.drop p).length)
  (h:∀ H',Ext [o] H H'→H'[o]? = some (inI (.lst (ai cs)) (p + (cs.drop p).length))→Q (.val (.ref 201)) H'):ac (BB W) n (.ref 1477) [.cell sg,stA tb,.lst [poA k]] H Q:=by
 have ho':=ho
 have hs':=hs
 have hol:=ar ho
 unfold bL at hs
 unfold inI at ho
 refine ab iH (by tm_at "o") ?_
 tm_at "in"
 refine t6 (i:=0) (by tm_at "o") hp ho' rfl (by simp) ?_
 tm_at "ww"
 refine fh (by tm_at "o") ho' hz hv ?_
 tm_at "ww"
 refine kq (by tm_at "o") fun f0=>?_
 have hrd:(H++[rdI (H.length + 1) tb f0,lxI (cs.drop p) 0,.list []])[H.length]? = some (rdI (H.length + 1) tb f0):=yK
 have hlx:(H++[rdI (H.length + 1) tb f0,lxI (cs.drop p) 0,.list []])[H.length + 1]? = some (lxI (cs.drop p) 0):=by
  rw [List.getElem?_append_right (by tm_at "o"),Nat.add_sub_cancel_left]; rfl
 have hrd':=hrd
 unfold rdI at hrd'
 tm_at "ww"
 refine El (by tm_at "o") (by rw [List.length_drop]; lia) hrd hlx hsk ?_
 generalize hJ:H++[rdI (H.length + 1) tb f0,lxI (cs.drop p) 0,Cell.list []] = HJ at *
 have eJ:Ext [o] H HJ:=by rw [← hJ]; exact Ext.refl.appJ
 generalize hK:((HJ++[Cell.list []]).set H.length (rdI (H.length + 1) tb HJ.length)).set (H.length + 1) (lxI (cs.drop p) (cs.drop p).length) = HK
 have eK:Ext [] H HK:=by
  rw [← hK,← hJ]
  exact (((Ext.refl.appJ).app).set (.inr (Nat.le_refl _))).set (.inr (by tm_at "o"))
 have hl1:((HJ++[Cell.list []]).set H.length (rdI (H.length + 1) tb HJ.length))[H.length + 1]? = some (lxI (cs.drop p) 0):=ao (by tm_at "o") (aw hlx)
 have r1:HK[H.length]? = some (rdI (H.length + 1) tb HJ.length):=by
  rw [← hK]
  exact ao (by tm_at "o") (aj (aw hrd))
 have r2:HK[H.length + 1]? = some (lxI (cs.drop p) (cs.drop p).length):=by
  rw [← hK]
  exact aj hl1
 have ho2:=eK.get (by simp) ho'
 have ho3:=ho2
 have hrd2:=r1
 unfold inI at ho3
 unfold rdI at hrd2
 tm_at "ww"
 refine nG (by tm_at "o") r1 r2 ?_
 tm_at "ww"
 refine fH ?_
 tm_at "ww"
 refine QG (by tm_at "o") ?_
 tm_at "ww"
 exact h _ ((eK.mono fun j q=>by cases q).set (.inl (.head _))) (aj ho2)
end
section
set_option bootstrap.genMatcherCode false
variable {n:Nat} {H:HS} {Q:AV→HS→Prop}
theorem jc {a:AV} (hn:2≤n) (h:Q (.cell H.length) (H++[cV a])):ac (BB W) n (.ref 1326) [a] H Q:=by
 refine bX un (by tm_at "o") ?_
 refine am f7 (by tm_at "o") ?_
 tm_at "in"
 simp only [aq]
 exact ⟨trivial,h⟩
theorem kw {a:AV} (hn:2≤n) (h:Q (.cell H.length) (H++[inI a 0])):ac (BB W) n (.ref 1298) [a] H Q:=by
 refine bX wq (by tm_at "o") ?_
 refine am gY (by tm_at "o") ?_
 tm_at "in"
 simp only [aq]
 exact ⟨trivial,h⟩
theorem kx {pt pr fl:Nat} {rows:List AV} {a:AV} (hn:1≤n) (hp:H[pt]? = some (ptI pr fl)) (hr:H[pr]? = some (.list rows)) (hz:rows.length≤100) (h:Q (.int (rows.length:Int)) (H.set pr (.list (rows++[a])))):ac (BB W) n (.ref 1358) [.cell pt,a] H Q:=by
 unfold ptI at hp
 refine ab gw (by tm_at "o") ?_
 tm_at "in"
 have e:((rows++[a]).length:Int) - 1 = rows.length:=by simp
 rw [e]
 exact h
theorem qy {sg tb pt ti op pr fl:Nat} {rows:List AV} {t:AV} (hn:5≤n) (hs:H[sg]? = some (bL tb pt ti op)) (hp:H[pt]? = some (ptI pr fl)) (hr:H[pr]? = some (.list rows)) (hz:rows.length≤100)
  (h:Q (poA rows.length) ((H++[.list [],cV (.cell H.length)]).set pr (.list (rows++[.cell (H.length + 1)])))):ac (BB W) n (.ref 1463) [.cell sg,stA tb,t] H Q:=by
 unfold bL at hs
 have hp0:=hp
 unfold ptI at hp
 refine ab cX (by tm_at "o") ?_
 tm_at "in"
 refine aR (aU ⟨by decide,?_⟩)
 tm_at "ww"
 refine jc (by tm_at "o") ?_
 simp only [List.length_append,List.length_cons,List.length_nil,List.append_assoc,List.nil_append,List.cons_append,Nat.zero_add]
 tm_at "ww"
 refine kx (by tm_at "o") (aw hp0) (aw hr) hz ?_
 tm_at "ww"
 refine yD (by tm_at "o") ?_
 tm_at "ww"
 exact h
theorem tK {sg tb pt ti op pr fl:Nat} {rows:List AV} {cs:List Nat} (hn:5≤n) (hs:H[sg]? = some (bL tb pt ti op)) (hp:H[pt]? = some (ptI pr fl)) (hr:H[pr]? = some (.list rows)) (hz:rows.length≤100) (hc:cs.length≤100000)
  (h:Q (poA rows.length) ((H++[inI (.lst (ai cs)) 0]).set pr (.list (rows++[.cell H.length])))):ac (BB W) n (.ref 1456) [.cell sg,stA tb,.lst [txA cs .none]] H Q:=by
 unfold bL at hs
 have hp0:=hp
 unfold ptI at hp
 refine ab dj (by tm_at "o") ?_
 tm_at "in"
 refine fD (by tm_at "o") ?_
 tm_at "ww"
 refine ja (by tm_at "o") hc ?_
 tm_at "ww"
 refine kw (by tm_at "o") ?_
 tm_at "ww"
 refine kx (by tm_at "o") (aw hp0) (aw hr) hz ?_
 tm_at "ww"
 refine yD (by tm_at "o") ?_
 tm_at "ww"
 exact h
end
section
set_option bootstrap.genMatcherCode false
variable {n:Nat} {H:HS} {Q:AV→HS→Prop}
theorem j8 (hn:2≤n) (h:Q (.cell H.length) (H++[tbI (H.length + 1) (H.length + 2),.list [],.dict []])):ac (BB W) n (.ref 282) [] H Q:=by
 refine bX lb (by tm_at "o") ?_
 refine am dP (by tm_at "o") ?_
 tm_at "in"
 refine aR (aU ⟨by decide,?_⟩)
 simp only [List.length_append,List.length_cons,List.length_nil,List.append_assoc,List.nil_append,List.cons_append,Nat.zero_add]
 tm_at "ww"
 simp only [cz,List.nil_append,List.cons_append,List.length_append,List.length_cons,List.length_nil,List.append_assoc,Nat.zero_add]
 exact ⟨trivial,h⟩
theorem j5 {tb:Nat} (hn:2≤n) (h:Q (stA tb) H):ac (BB W) n (.ref 1886) [.cell tb] H Q:=by
 refine ft ly (by tm_at "o") (fun m h=>h) rfl ?_ h
 refine am dH (by tm_at "o") ?_
 tm_at "in"
 simp only [aq]
 exact ⟨trivial,rfl⟩
theorem n9 (hn:4≤n) (h:Q (.cell H.length) (H++[ptI (H.length + 5) (H.length + 6),.list [],cV (.cell (H.length + 1)),.list [],inI (.cell (H.length + 3)) 0,.list [.cell (H.length + 2),.cell (H.length + 4)],.dict []])):ac (BB W) n (.ref 1410) [] H Q:=by
 refine bX pY (by tm_at "o") ?_
 refine am eU (by tm_at "o") ?_
 tm_at "in"
 refine aR ?_
 tm_at "ww"
 refine aR (aU ⟨by decide,?_⟩)
 simp only [List.length_append,List.length_cons,List.length_nil,List.append_assoc,List.nil_append,List.cons_append,Nat.zero_add]
 tm_at "ww"
 refine jc (by tm_at "o") ?_
 simp only [List.length_append,List.length_cons,List.length_nil,List.append_assoc,List.nil_append,List.cons_append,Nat.zero_add]
 tm_at "ww"
 refine aR (aU ⟨by decide,?_⟩)
 simp only [List.length_append,List.length_cons,List.length_nil,List.append_assoc,List.nil_append,List.cons_append,Nat.zero_add]
 tm_at "ww"
 refine kw (by tm_at "o") ?_
 simp only [List.length_append,List.length_cons,List.length_nil,List.append_assoc,List.nil_append,List.cons_append,Nat.zero_add]
 tm_at "ww"
 refine ⟨rfl,?_⟩
 simp only [List.append_assoc,List.cons_append,List.nil_append,cz,List.length_append,List.length_cons,List.length_nil,Nat.zero_add]
 exact h
end
section
set_option bootstrap.genMatcherCode false
variable {n:Nat} {H:HS} {Q:AV→HS→Prop}
theorem oq {R:Value→List AV→HS→Prop} (h:R (.ref 1904) [] H):cO (BB W) n (.val (.ref 1970)) "__init__" H R:=by
 refine Ud (mc:=.type "type") (f:=.ref 1904) (by kernel_rfl) (by kernel_rfl) (by kernel_rfl) rfl h
theorem lz (hn:5≤n) (h:Q .none (H++[.inst 1999 [lv' "table" (.cell (H.length + 1)),lv' "last" (.int 0),lv' "titles" (.cell (H.length + 4)),lv' "ops" (.cell (H.length + 5)),lv' "root" .none],tbI (H.length + 2) (H.length + 3),.list [],.dict [],.dict [],.dict []])):ac (BB W) n (.ref 1904) [.cell H.length] (H++[.inst 1999 []]) Q:=by
 refine ab iL (by tm_at "o") ?_
 tm_at "in"
 refine j8 (by tm_at "o") ?_
 simp only [List.length_append,List.length_cons,List.length_nil,List.append_assoc,List.nil_append,List.cons_append,Nat.zero_add]
 tm_at "ww"
 simp only [List.append_assoc,List.cons_append,List.nil_append,cz,List.length_append,List.length_cons,List.length_nil,Nat.zero_add]
 exact h
theorem th (hn:7≤n) (h:Q (.cell H.length) (H++[bL (H.length + 1) (H.length + 6) (H.length + 4) (H.length + 5),tbI (H.length + 2) (H.length + 3),.list [],.dict [],.dict [],.dict [],ptI (H.length + 11) (H.length + 12),.list [],cV (.cell (H.length + 7)),.list [],inI (.cell (H.length + 9)) 0,.list [.cell (H.length + 8),.cell (H.length + 10)],.dict []])):ac (BB W) n (.ref 1999) [.int 8,.int 100000] H Q:=by
 refine bX uI (by tm_at "o") ?_
 refine am gu (by tm_at "o") ?_
 tm_at "in"
 refine oq ?_
 tm_at "ww"
 refine lz (by tm_at "o") ?_
 tm_at "ww"
 simp only [List.append_assoc,List.cons_append,List.nil_append,cz,List.length_append,List.length_cons,List.length_nil,Nat.zero_add]
 tm_at "ww"
 refine n9 (by tm_at "o") ?_
 simp only [List.length_append,List.length_cons,List.length_nil,List.append_assoc,List.nil_append,List.cons_append,Nat.zero_add]
 tm_at "ww"
 simp only [List.append_assoc,List.cons_append,List.nil_append,cz,List.length_append,List.length_cons,List.length_nil,Nat.zero_add]
 exact ⟨trivial,h⟩
end
section
set_option bootstrap.genMatcherCode false
variable {n:Nat} {H:HS} {Q:AV→HS→Prop}
theorem zP {ns:List Int} {k:Nat}:(ns.map AV.int).take k = (ns.take k).map AV.int:=by rw [List.map_take]
theorem EJ {m:Nat} {xs:List Int}:AV.bds m (xs.map .int):=CN fun a ha=>by
 obtain ⟨x,_,rfl⟩:=List.mem_map.mp ha
 simp only [AV.bd]
theorem zO {ns:List Int} (hn:2≤n) (hz:ns.length≤63) (h:∀ xs:List Int,1≤xs.length→xs.length≤41→Q (.cell H.length) (H++[.list [.lst (xs.map .int),.int 0]])):ac (BB W) n (.ref 2006) [.arg (ns.map .int)] H Q:=by
 refine ab pP (by tm_at "o") ?_
 tm_at "in"
 refine aR ?_
 tm_at "ww"
 refine iO fun hw=>?_
 refine bG (fr:=[]) (sc':=j2) (.of (by kernel_rfl) (by simp)) (by tm_at "mem") ?_
 refine gJ ?_
 tm_at "ww"
 refine ma .arg (by simp; lia) .none (.int _) .none (by intro q; cases q) ?_
 tm_at "ww"
 refine ⟨_,.lst,(ns.take 40).map .int,fun a=>match a with | .int c=>.int ((if c < 0 then -c else c).fmod 1000003) | _=>.none,by simp; lia,fun i J=>by rw [show (40:Int) = ((40:Nat):Int) from rfl,oz,zP]; exact bV .lst i,fun a J ha=>?_,?_⟩
 ·obtain ⟨c,hc,rfl⟩:=List.mem_map.mp ha
  tm_at "go"
  exact ⟨rfl,rfl⟩
 ·have e:((ns.take 40).map AV.int).map (fun a=>match a with | .int c=>AV.int ((if c < 0 then -c else c).fmod 1000003) | _=>.none) = ((ns.take 40).map fun c=>(if c < 0 then -c else c).fmod 1000003).map .int:=by
   rw [List.map_map,List.map_map]; rfl
  rw [e]
  refine ⟨_,_,rfl,rfl,Nat.le_refl _,hw,EJ,?_⟩
  tm_at "ww"
  refine aA ?_
  tm_at "ww"
  refine Oq (by simp; lia) ?_
  tm_at "ww"
  have:=h (((ns.take 40).map fun c=>(if c < 0 then -c else c).fmod 1000003)++[(ns.length:Int) + 5]) (by simp) (by simp; lia)
  rw [List.map_append] at this
  simpa using this
inductive LfI (d r:Nat) (H2:HS) (i:Nat) (ys:List AV) (J:HS):Prop
 | mk (cs:List Nat) (H3:HS) (e1:ys = ai cs) (e2:cs.length = i) (h:∀ c ∈ cs,c ∈ CE) (e3:J = H3++[.list ys]) (s:SB d H2 H3) (k:bv H3 d (r + 3 - i))
theorem jw {d r:Nat} (hn:4≤n) (hd:bv H d (r + 5)) (h:∀ l H',l.ok→bv H' d r→SB d H H'→Q (be l) H'):ac (BB W) n (.ref 2018) [.cell d] H Q:=by
 refine ab pp (by tm_at "o") ?_
 tm_at "in"
 refine aS (r:=r + 4) (by tm_at "o") hd (by tm_at "o") fun v H1 v0 v1 d1 s1=>?_
 tm_at "ww"
 refine eD (fun c=>?_) fun c=>?_
 ·tm_at "ww"
  refine aS (r:=r + 3) (by tm_at "o") d1 (by tm_at "o") fun w H2 w0 w1 d2 s2=>?_
  tm_at "ww"
  exact h (.whole (w - 20)) H2 ⟨by lia,by lia⟩ (d2.less (by tm_at "o")) (s1.trans s2)
 tm_at "ww"
 refine eD (fun c=>?_) fun c=>?_
 ·tm_at "ww"
  refine aS (r:=r + 3) (by tm_at "o") d1 (by tm_at "o") fun w H2 w0 w1 d2 s2=>?_
  tm_at "ww"
  exact h (.truth (w == 1)) H2 trivial (d2.less (by tm_at "o")) (s1.trans s2)
 tm_at "ww"
 refine eD (fun c=>?_) fun c=>?_
 ·tm_at "ww"
  refine aA ?_
  tm_at "ww"
  refine aS (r:=r + 3) (by tm_at "o") d1 (by tm_at "o") fun w H2 w0 w1 d2 s2=>?_
  tm_at "ww"
  obtain ⟨x,hx,ho⟩:∃ x,[ae "a",ae "b1",ae "+",ae "...",ae "x->y",ae "-"][w.toNat]? = some x∧x ∈ eX:=by
   have:∀ i,i < 6→∃ x,[ae "a",ae "b1",ae "+",ae "...",ae "x->y",ae "-"][i]? = some x∧x ∈ eX:=by
    intro i hi
    have e:[ae "a",ae "b1",ae "+",ae "...",ae "x->y",ae "-"] = eX:=by decide +kernel
    rw [e]
    exact ⟨_,List.getElem?_eq_getElem hi,List.getElem_mem _⟩
   exact this _ (by tm_at "o")
  refine bn (a:=.str x) .lst w0 (by tm_at "o") ?_ ?_
  ·have:=congrArg (Option.map AV.str) hx
   rw [← List.getElem?_map] at this
   exact this
  tm_at "ww"
  exact h (.sym x) H2 ho (d2.less (by tm_at "o")) (s1.trans s2)
 tm_at "ww"
 refine eD (fun c=>?_) fun c=>?_
 ·tm_at "ww"
  refine iO fun hw=>?_
  refine u4 (fr:=[lv' "deck" (.cell d)]) (sc':=jZ) (.of (by kernel_rfl) (by simp)) (by tm_at "mem") ?_
  refine cJ ?_
  tm_at "ww"
  refine aS (r:=r + 3) (by tm_at "o") d1 (by tm_at "o") fun w H2 w0 w1 d2 s2=>?_
  tm_at "ww"
  obtain ⟨k,rfl⟩:∃ k:Nat,w = k:=⟨w.toNat,by lia⟩
  obtain ⟨r1,r2,r3⟩:=Be (k:=k) (by tm_at "o")
  refine ⟨0,_,1,rfl,r1,r2,(List.range k).map fun i:Nat=>AV.int i,LfI d r H2,by simp; lia,⟨[],H2,rfl,rfl,by simp,rfl,.refl,d2⟩,?_,?_⟩
  ·rintro i ys _ ⟨cs,H3,rfl,rfl,hc,rfl,s3,d3⟩ e
   refine ⟨by rw [r3]; exact xn _ _,fun a ha=>?_⟩
   have hi:cs.length < k:=by have:=(List.getElem?_eq_some_iff.mp ha).1; simpa using this
   clear ha
   tm_at "go"
   refine aA ?_
   tm_at "ww"
   refine aS (r:=r + 3 - cs.length - 1) (by tm_at "o") (d3.app.less (by tm_at "o")) (by tm_at "o") fun u H4 u0 u1 d4 s4=>?_
   obtain ⟨H5,rfl,s5⟩:=s4.app d3.lt
   tm_at "ww"
   obtain ⟨x,hx,ho⟩:∃ x:Nat,CE[u.toNat]? = some x∧x ∈ CE:=⟨_,List.getElem?_eq_getElem (show u.toNat < 7 by lia),List.getElem_mem _⟩
   refine bn (a:=.int (x:Int)) .lst u0 (by tm_at "o") ?_ ?_
   ·have:=congrArg (Option.map fun c:Nat=>AV.int (c:Int)) hx
    rw [← List.getElem?_map] at this
    exact this
   have hl:H2.length = H5.length:=by rw [s5.1,s3.1]
   rw [hl]
   have ei:ai cs++[AV.int (x:Int)] = ai (cs++[x]):=by simp [ai]
   refine ⟨aB,cs++[x],H5,ei,by simp,fun c q=>?_,aq,s3.trans s5,(d4.of_app (by have:=d3.lt; rw [s5.1]; exact this)).less (by tm_at "o")⟩
   rcases List.mem_append.mp q with q | q
   ·exact hc c q
   ·obtain rfl:=List.mem_singleton.mp q
    exact ho
  ·rintro ys _ ⟨cs,H3,rfl,hl,hc,rfl,s3,d3⟩ e
   refine ⟨H3,ai cs,by rw [s3.1],rfl,by rw [s3.1,s2.1]; exact Nat.le_refl _,hw.sb (s2.trans s3) d3,cH,?_⟩
   tm_at "ww"
   simp at hl
   exact h (.str cs) H3 ⟨by lia,hc⟩ (d3.less (by simp; lia)) (s1.trans (s2.trans s3))
 tm_at "ww"
 refine aA ?_
 tm_at "ww"
 refine aS (r:=r + 3) (by tm_at "o") d1 (by tm_at "o") fun w H2 w0 w1 d2 s2=>?_
 tm_at "ww"
 obtain ⟨x,hx,ho⟩:∃ x:Nat,v6[w.toNat]? = some x∧x ∈ v6:=⟨_,List.getElem?_eq_getElem (show w.toNat < 7 by lia),List.getElem_mem _⟩
 refine bn (a:=.int (x:Int)) .lst w0 (by tm_at "o") ?_ ?_
 ·have:=congrArg (Option.map fun c:Nat=>AV.int (c:Int)) hx
  rw [← List.getElem?_map] at this
  exact this
 tm_at "ww"
 exact h (.chr x) H2 ho (d2.less (by tm_at "o")) (s1.trans s2)
noncomputable def kr:Nat→Nat
 | 0=>5
 | n + 1=>3 * kr n + 8
theorem Ad:∀ k,5≤kr k
 | 0=>Nat.le_refl _
 | k + 1=>by simp only [kr]; lia
theorem Lf.okT {l:Lf} (h:l.ok):∀ k,(Tr.leaf l).ok k
 | 0=>h
 | _ + 1=>h
end
section
set_option bootstrap.genMatcherCode false
inductive TrI (k d r m B:Nat) (H2:HS) (i:Nat) (ys:List AV) (J:HS):Prop
 | mk (ts:List Tr) (H3:HS) (e1:ys = bE ts) (e2:ts.length = i) (h:∀ t ∈ ts,Tr.ok k t) (e3:J = H3++[.list ys]) (s:SB d H2 H3) (k:bv H3 d (r + 6 + (m - i) * B))
theorem qH:∀ (k:Nat) {n:Nat} {H:HS} {Q:AV→HS→Prop} {d r:Nat},2 * k + 6≤n→bv H d (r + kr k)→(∀ t H',Tr.ok k t→bv H' d r→SB d H H'→Q (trA t) H')→ac (BB W) n (.ref 2023) [.cell d,.int (k:Int)] H Q
 | 0,n,H,Q,d,r,hn,hd,h=>by
  refine ab gK (by tm_at "o") ?_
  tm_at "in"
  refine jw (r:=r) (by tm_at "o") hd fun l H1 hl d1 s1=>?_
  tm_at "ww"
  have:=h (.leaf l) H1 hl d1 s1
  simp only [trA] at this; exact this
 | k + 1,n,H,Q,d,r,hn,hd,h=>by
  have hb:=Ad k
  have hd0:bv H d (r + (3 * kr k + 8)):=hd
  obtain ⟨B,hB⟩:∃ B,B = kr k:=⟨_,rfl⟩
  rw [← hB] at hb hd0
  clear hd
  refine (aJ.layT fun hw0 hx0=>?_).call
  clear hx0
  refine am gK (by tm_at "o") ?_
  tm_at "in"
  refine b7 (decide_eq_true (by tm_at "o")) ?_
  tm_at "ww"
  refine aS (r:=r + 3 * B + 7) (by tm_at "o") (hd0.less (by tm_at "o")) (by tm_at "o") fun v H1 v0 v1 d1 s1=>?_
  tm_at "ww"
  refine eD (fun c=>?_) fun c=>?_
  ·tm_at "ww"
   refine jw (r:=r) (by tm_at "o") (d1.less (by tm_at "o")) fun l H2 hl d2 s2=>?_
   tm_at "ww"
   have:=h (.leaf l) H2 (Lf.okT hl _) d2 (s1.trans s2)
   simp only [trA] at this
   exact .inr this
  tm_at "ww"
  refine rE (sc':=jH) (fr:=[lv' "deck" (.cell d),lv' "deep" (.int ((k + 1:Nat):Int))]) (.of (by kernel_rfl) (by simp)) (by tm_at "mem") (by tm_at "mem") ?_ (mj (by kernel_rfl))
  refine cJ ?_
  tm_at "ww"
  refine aS (r:=r + 3 * B + 6) (by tm_at "o") d1 (by tm_at "o") fun w H2 w0 w1 d2 s2=>?_
  tm_at "ww"
  obtain ⟨m,rfl⟩:∃ m:Nat,w = m:=⟨w.toNat,by lia⟩
  have hm:m≤3:=by lia
  have hm3:=xP (b:=B) hm
  obtain ⟨r1,r2,r3⟩:=Be (k:=m) (by tm_at "o")
  refine ⟨0,_,1,rfl,r1,r2,(List.range m).map fun i:Nat=>AV.int i,TrI k d r m B H2,by simp; lia,⟨[],H2,rfl,rfl,by simp,rfl,.refl,d2.less (by simp; lia)⟩,?_,?_⟩
  ·rintro i ys _ ⟨ts,H3,rfl,rfl,hc,rfl,s3,d3⟩ e
   refine ⟨by rw [r3]; exact xn _ _,fun a ha=>?_⟩
   have hi:ts.length < m:=by have:=(List.getElem?_eq_some_iff.mp ha).1; simpa using this
   clear ha
   tm_at "go"
   rw [show ((k + 1:Nat):Int) - 1 = (k:Int) by lia]
   obtain ⟨j,hj⟩:∃ j,m - ts.length = j + 1:=⟨m - ts.length - 1,by lia⟩
   have em:(m - ts.length) * B = (m - (ts.length + 1)) * B + B:=by rw [hj,show m - (ts.length + 1) = j by lia,Nat.add_mul,Nat.one_mul]
   have d3':bv (H3++[.list (bE ts)]) d (r + 6 + (m - (ts.length + 1)) * B + kr k):=d3.app.less (by rw [← hB,em]; lia)
   refine qH k (r:=r + 6 + (m - (ts.length + 1)) * B) (by tm_at "o") d3' ?_
   intro t H4 ht d4 s4
   obtain ⟨H5,rfl,s5⟩:=s4.app d3.lt
   tm_at "ww"
   have hl:H2.length = H5.length:=by rw [s5.1,s3.1]
   rw [hl]
   refine ⟨aB,ts++[t],H5,(zG ts t).symm,by simp,fun c q=>?_,aq,s3.trans s5,d4.of_app (by have:=d3.lt; rw [s5.1]; exact this)⟩
   rcases List.mem_append.mp q with q | q
   ·exact hc c q
   ·obtain rfl:=List.mem_singleton.mp q
    exact ht
  ·clear r1 r2 r3
   rintro ys _ ⟨ts,H3,rfl,hl,hc,rfl,s3,d3⟩ e
   have hl3:ts.length≤3:=by simp at hl; lia
   have hz3:(bE ts).length≤100000:=by rw [cG]; lia
   have hw3:=hw0.sb (s1.trans (s2.trans s3)) (d3.less (Nat.zero_le _))
   have hle:H.length≤H3.length:=by rw [s3.1,s2.1,s1.1]; exact Nat.le_refl _
   have sA:=s1.trans (s2.trans s3)
   rw [← s3.1]
   clear e s3
   tm_at "ww"
   refine eD (fun c=>?_) fun c=>?_
   ·tm_at "ww"
    refine .inl ⟨H3,bE ts,[.str (ae "vector")],[],rfl,rfl,hle,hw3,ey ts,by simp only [AV.bds,AV.bd]; exact ⟨trivial,trivial⟩,by simp only [AV.bds],?_⟩
    have:=h (.vec ts) H3 ⟨hl3,hc⟩ (d3.less (by tm_at "o")) sA
    simp only [trA] at this; exact this
   ·tm_at "ww"
    refine eD (fun c1=>?_) fun c1=>?_
    ·tm_at "ww"
     refine aS (r:=r + 5) (by tm_at "o") (d3.app.less (by tm_at "o")) (by tm_at "o") fun u H4 u0 u1 d4 s4=>?_
     obtain ⟨H5,rfl,s5⟩:=s4.app d3.lt
     have d5:=d4.of_app (by have:=d3.lt; rw [s5.1]; exact this)
     tm_at "ww"
     refine eD (fun c2=>?_) fun c2=>?_
     ·tm_at "ww"
      refine jw (r:=r) (by tm_at "o") d4 fun l H6 hl6 d6 s6=>?_
      obtain ⟨H7,rfl,s7⟩:=s6.app d5.lt
      have d7:=d6.of_app (by have:=d5.lt; rw [s7.1]; exact this)
      tm_at "ww"
      have el:H3.length = H7.length:=by rw [s7.1,s5.1]
      rw [el]
      refine .inl ⟨H7,bE ts,[.str (ae "list")],[be l],rfl,rfl,by lia,hw3.sb (s5.trans s7) d7,ey ts,by simp only [AV.bds,AV.bd]; exact ⟨trivial,trivial⟩,by simp only [AV.bds]; exact ⟨m6,trivial⟩,?_⟩
      have:=h (.list ts (some l)) H7 ⟨hl3,hc,fun l' q=>by cases q; exact ⟨hl6,by rintro rfl; simp [bE] at c1⟩⟩ d7 (sA.trans (s5.trans s7))
      simp only [trA,lF] at this; exact this
     ·tm_at "ww"
      have el:H3.length = H5.length:=by rw [s5.1]
      rw [el]
      refine .inl ⟨H5,bE ts,[.str (ae "list")],[.none],rfl,rfl,by lia,hw3.sb s5 d5,ey ts,by simp only [AV.bds,AV.bd]; exact ⟨trivial,trivial⟩,by simp only [AV.bds,AV.bd]; exact ⟨trivial,trivial⟩,?_⟩
      have:=h (.list ts none) H5 ⟨hl3,hc,fun l' q=>by cases q⟩ (d5.less (by tm_at "o")) (sA.trans s5)
      simp only [trA,lF] at this; exact this
    ·tm_at "ww"
     refine .inl ⟨H3,bE ts,[.str (ae "list")],[.none],rfl,rfl,hle,hw3,ey ts,by simp only [AV.bds,AV.bd]; exact ⟨trivial,trivial⟩,by simp only [AV.bds,AV.bd]; exact ⟨trivial,trivial⟩,?_⟩
     have:=h (.list ts none) H3 ⟨hl3,hc,fun l' q=>by cases q⟩ (d3.less (by tm_at "o")) sA
     simp only [trA,lF] at this; exact this
end
section
set_option bootstrap.genMatcherCode false
variable {n:Nat} {H:HS} {Q:AV→HS→Prop}
theorem iP {sg tb pt ti op i j:Nat} {G:Gs} {x:List Nat} (hn:4≤n) (hg:H[sg]? = some (bL tb pt ti op)) (ht:H[tb]? = some (tbI i j)) (hs:SymT H i j G) (hx:x ∈ eX)
  (h:∀ k G' H',GLe G G'→G'.lookup x = some k→SymT H' i j G'→Ext [i,j] H H'→(G.lookup x ≠ none→H' = H∧G' = G)→Q (.cell k) H'):ac (BB W) n (.ref 1918) [.cell sg,.str x] H Q:=by
 unfold bL at hg
 have ht':=ht
 unfold tbI at ht'
 refine ab kZ (by tm_at "o") ?_
 tm_at "in"
 refine kD (by tm_at "o") ht' hs hx fun k G' H' a b c d e=>?_
 tm_at "ww"
 exact h k G' H' a b c d e
theorem qL {sg tb pt ti op i j:Nat} {G:Gs} {l:Lf} (hn:6≤n) (hg:H[sg]? = some (bL tb pt ti op)) (ht:H[tb]? = some (tbI i j)) (hs:SymT H i j G) (hx:l.ok)
  (h:∀ v G' H',LfD G' l v→SymT H' i j G'→GLe G G'→Ext [i,j] H H'→Q v H'):ac (BB W) n (.ref 2028) [.cell sg,stA tb,be l] H Q:=by
 have hg':=hg
 unfold bL at hg'
 refine ab dz (by tm_at "o") ?_
 cases l with
 | whole k =>
  unfold be
  tm_at "in"
  refine eB (ys:=[ae "whole",ae "truth"]) ?_
  tm_at "ww"
  exact h _ G H rfl hs (fun zz zz q=>q) .refl
 | truth b =>
  unfold be
  tm_at "in"
  refine eB (ys:=[ae "whole",ae "truth"]) ?_
  tm_at "ww"
  exact h _ G H rfl hs (fun zz zz q=>q) .refl
 | sym w =>
  unfold be
  tm_at "in"
  refine eB (ys:=[ae "whole",ae "truth"]) ?_
  tm_at "ww"
  refine iP (by tm_at "o") hg ht hs hx fun k G' H' a b c d e=>?_
  tm_at "ww"
  exact h _ G' H' ⟨k,rfl,b⟩ c a d
 | str cs =>
  have hz:(ai cs).length≤100000:=by have:=hx.1; simp; lia
  unfold be
  tm_at "in"
  refine eB (ys:=[ae "whole",ae "truth"]) ?_
  tm_at "ww"
  refine gR .lst hz ?_
  tm_at "ww"
  refine qC (by tm_at "o") .lst hz ?_
  tm_at "ww"
  exact h _ G H rfl hs (fun zz zz q=>q) .refl
 | chr c =>
  unfold be
  tm_at "in"
  refine eB (ys:=[ae "whole",ae "truth"]) ?_
  tm_at "ww"
  refine me (by tm_at "o") ?_
  tm_at "ww"
  exact h _ G H rfl hs (fun zz zz q=>q) .refl
end
section
set_option bootstrap.genMatcherCode false
theorem Fs {B:Base} {n:Nat} {sc:List (Str × NameKind)} {loc:Loc} {H:HS} {e:Expr} {Q Q':AV→HS→Prop} (h:EV B n sc loc H e Q) (k:∀ a H',Q a H'→Q' a H'):EV B n sc loc H e Q':=FV.mono h k
theorem take_snoc {α:Type} {l:List α} {i:Nat} {a:α} (h:l[i]? = some a):l.take (i + 1) = l.take i++[a]:=by rw [List.take_add_one,h]; rfl
theorem mm {ts:List Tr} {i:Nat} {a:AV} (h:(bE ts)[i]? = some a):∃ t,ts[i]? = some t∧a = trA t:=by
 rw [iF,List.getElem?_map] at h
 cases e:ts[i]? with
 | none=>rw [e] at h; cases h
 | some t=>rw [e] at h; cases h; exact ⟨t,rfl,rfl⟩
theorem DatR.any {H H':HS} {G G':Gs} {t:Tr} {v:AV} (h:DatR [] H G t v) (hg:GLe G G'):DatR [] H' G' t v:=h.mono (fun z hz=>by cases hz) hg
theorem SymT.lts {H:HS} {i j:Nat} {G:Gs} (h:SymT H i j G):i < H.length∧j < H.length:=by
 obtain ⟨xs,e,_⟩:=h.rows
 exact ⟨ar e,ar h.by_text⟩
theorem SymT.setL {H:HS} {i j k:Nat} {G:Gs} {xs ys:List AV} (h:SymT H i j G) (hk:H[k]? = some (.list xs)) (hi:k ≠ i):SymT (H.set k (.list ys)) i j G :=
 h.keep fun x c hx q=>ao (by
  rintro rfl
  rw [hk] at hx; cases hx
  rcases q with ⟨_,_,q⟩ | ⟨_,q⟩ | ⟨_,_,q⟩
  ·exact hi q
  ·cases q
  ·cases q) hx
theorem oC {ys:List AV} {m:Nat} {a e:AV} (h:ys[m]? = some a):prA a (fG (ys.drop (m + 1)) e) .none = fG (ys.drop m) e:=by
 obtain ⟨hlt,e'⟩:=List.getElem?_eq_some_iff.mp h
 rw [List.drop_eq_getElem_cons hlt,e']; rfl
inductive MdI (ts:List Tr) (i j:Nat) (G:Gs) (H:HS) (m:Nat) (ys:List AV) (J:HS):Prop
 | mk (G2:Gs) (a:hF (DatR [] J G2) (ts.take m) ys) (s:SymT J i j G2) (g:GLe G G2) (x:Ext [i,j] H J)
inductive MlI (sg tb:Nat) (ts:List Tr) (eo:Option Lf) (H:HS) (ys:List AV) (ev:AV) (J3:HS) (m:Nat) (loc:Loc) (J4:HS):Prop
 | mk (o:Option AV) (h:m≤ys.length) (e:loc = [lq "setting" (some (.cell sg)),lq "store" (some (stA tb)),lq "tree" (some (.tup [.str (ae "list"),.lst (bE ts),lF eo])),lq "word" (some (.str (ae "list"))),lq "parts" (some (.cell H.length)),lq "found" (some (fG (ys.drop (ys.length - m)) ev)),lq "part" o]) (e2:J3 = J4)
theorem gS:∀ (k:Nat) (t:Tr),t.ok k→∀ {n:Nat} {H:HS} {Q:AV→HS→Prop} {sg tb pt ti op i j:Nat} {G:Gs},2 * k + 8≤n→H[sg]? = some (bL tb pt ti op)→H[tb]? = some (tbI i j)→SymT H i j G →
  (∀ v G' H',DatR [] H' G' t v→SymT H' i j G'→GLe G G'→Ext [i,j] H H'→Q v H')→ac (BB W) n (.ref 2028) [.cell sg,stA tb,trA t] H Q
 | k,.leaf l,ok,n,H,Q,sg,tb,pt,ti,op,i,j,G,hn,hg,ht,hs,h=>by
  have ok':l.ok:=by cases k <;> exact ok
  simp only [trA]
  exact qL (by tm_at "o") hg ht hs ok' fun v G' H' a b c d=>h v G' H' (.leaf a) b c d
 | k + 1,.vec ts,⟨o1,o2⟩,n,H,Q,sg,tb,pt,ti,op,i,j,G,hn,hg,ht,hs,h=>by
  simp only [trA]
  have hne:sg ≠ i∧sg ≠ j:=by
   obtain ⟨xs,e,_⟩:=hs.rows
   exact ⟨aF hg e (by unfold bL; intro q; cases q),aF hg hs.by_text (by unfold bL; intro q; cases q)⟩
  have hnt:tb ≠ i∧tb ≠ j:=by
   obtain ⟨xs,e,_⟩:=hs.rows
   exact ⟨aF ht e (by unfold tbI; intro q; cases q),aF ht hs.by_text (by unfold tbI; intro q; cases q)⟩
  have hlt:=hs.lts
  refine ab dz (by tm_at "o") ?_
  tm_at "in"
  refine eB (ys:=[ae "whole",ae "truth"]) ?_
  tm_at "ww"
  refine rE (sc':=dL) (fr:=[lv' "setting" (.cell sg),lv' "store" (stA tb)]) (.of (by kernel_rfl) (by simp)) (by tm_at "mem") (by tm_at "mem") ?_ (mj (by kernel_rfl))
  refine gJ ?_
  tm_at "ww"
  refine ⟨_,.lst,bE ts,MdI ts i j G H,by rw [cG]; lia,⟨G,.nil,hs.keep fun x c e zz=>aw e,fun zz zz q=>q,Ext.refl.app⟩,?_,?_⟩
  ·rintro m ys J ⟨G2,a2,s2,g2,x2⟩ e
   refine ⟨bV .lst _,fun a ha=>?_⟩
   obtain ⟨t,et,rfl⟩:=mm ha
   have hgJ:=x2.get (by simp [hne]) hg
   have htJ:=x2.get (by simp [hnt]) ht
   clear ha
   tm_at "go"
   refine gS k t (o2 t (List.mem_of_getElem? et)) (by tm_at "o") hgJ htJ s2 fun v G3 H4 d3 s3 g3 x3=>?_
   tm_at "ww"
   have e4:=x3.get (j:=H.length) (by simp; lia) e
   refine ⟨e4,G3,?_,s3.setL e4 (by tm_at "o"),g2.trans g3,(x2.trans x3).set (.inr (Nat.le_refl _))⟩
   rw [take_snoc et]
   exact (a2.mono fun t v q=>q.any g3).snoc (d3.any fun zz zz q=>q)
  ·rintro ys J ⟨G2,a2,s2,g2,x2⟩ e
   rw [cG,List.take_length] at a2
   have hz:ys.length≤1000:=by rw [← a2.1]; lia
   tm_at "ww"
   refine z5 (by tm_at "o") (.cell e) (by tm_at "o") ?_
   tm_at "ww"
   exact h _ G2 J (.vec (.inl rfl) hz a2.1 a2.2) s2 g2 x2
 | k + 1,.list ts eo,⟨o1,o2,o3⟩,n,H,Q,sg,tb,pt,ti,op,i,j,G,hn,hg,ht,hs,h=>by
  simp only [trA]
  have hne:sg ≠ i∧sg ≠ j:=by
   obtain ⟨xs,e,_⟩:=hs.rows
   exact ⟨aF hg e (by unfold bL; intro q; cases q),aF hg hs.by_text (by unfold bL; intro q; cases q)⟩
  have hnt:tb ≠ i∧tb ≠ j:=by
   obtain ⟨xs,e,_⟩:=hs.rows
   exact ⟨aF ht e (by unfold tbI; intro q; cases q),aF ht hs.by_text (by unfold tbI; intro q; cases q)⟩
  have hlt:=hs.lts
  refine ab dz (by tm_at "o") ?_
  tm_at "in"
  refine eB (ys:=[ae "whole",ae "truth"]) ?_
  tm_at "ww"
  refine rE (sc':=dL) (fr:=[lv' "setting" (.cell sg),lv' "store" (stA tb)]) (.of (by kernel_rfl) (by simp)) (by tm_at "mem") (by tm_at "mem") ?_ (mj (by kernel_rfl))
  refine gJ ?_
  tm_at "ww"
  refine ⟨_,.lst,bE ts,MdI ts i j G H,by rw [cG]; lia,⟨G,.nil,hs.keep fun x c e zz=>aw e,fun zz zz q=>q,Ext.refl.app⟩,?_,?_⟩
  ·rintro m ys J ⟨G2,a2,s2,g2,x2⟩ e
   refine ⟨bV .lst _,fun a ha=>?_⟩
   obtain ⟨t,et,rfl⟩:=mm ha
   have hgJ:=x2.get (by simp [hne]) hg
   have htJ:=x2.get (by simp [hnt]) ht
   clear ha
   tm_at "go"
   refine gS k t (o2 t (List.mem_of_getElem? et)) (by tm_at "o") hgJ htJ s2 fun v G3 H4 d3 s3 g3 x3=>?_
   tm_at "ww"
   have e4:=x3.get (j:=H.length) (by simp; lia) e
   refine ⟨e4,G3,?_,s3.setL e4 (by tm_at "o"),g2.trans g3,(x2.trans x3).set (.inr (Nat.le_refl _))⟩
   rw [take_snoc et]
   exact (a2.mono fun t v q=>q.any g3).snoc (d3.any fun zz zz q=>q)
  ·rintro ys J ⟨G2,a2,s2,g2,x2⟩ e
   rw [cG,List.take_length] at a2
   have hz:ys.length≤1000:=by rw [← a2.1]; lia
   have hgJ:=x2.get (by simp [hne]) hg
   have htJ:=x2.get (by simp [hnt]) ht
   repeat ((fail_if_success with_reducible refine Qi ?_); tm_at "w")
   refine Fs (Q:=fun ev J3=>∃ G3,lT G3 eo ev∧SymT J3 i j G3∧GLe G2 G3∧Ext [i,j] J J3) ?_ ?_
   ·cases eo with
    | none =>
     simp only [lF]
     tm_at "ww"
     exact ⟨G2,rfl,s2,fun zz zz q=>q,.refl⟩
    | some l =>
     simp only [lF]
     have hl:be l ≠ .none:=by cases l <;> (intro q; cases q)
     have hl':be l ≠ .val .none:=by cases l <;> (intro q; cases q)
     tm_at "ww"
     refine kG hl hl' ?_
     tm_at "ww"
     refine qL (by tm_at "o") hgJ htJ s2 (o3 l rfl).1 fun v G3 H4 a b c d=>?_
     tm_at "ww"
     exact ⟨G3,a,b,c,d⟩
   ·rintro ev J3 ⟨G3,d3,s3,g3,x3⟩
    have e3:=x3.get (j:=H.length) (by simp; lia) e
    tm_at "ww"
    refine cB (gJ ?_)
    tm_at "ww"
    refine ma (.cell e3) (by tm_at "o") .none .none (.int _) (by intro q; cases q) ?_
    rw [zi]
    refine ⟨ys.reverse,.lst,MlI sg tb ts eo H ys ev J3,ys.length,⟨none,Nat.zero_le _,by rw [Nat.sub_zero,List.drop_length]; rfl,rfl⟩,?_⟩
    rintro m _ _ ⟨o,hm,rfl,rfl⟩
    rw [bV .lst]
    cases hx:ys.reverse[m]? with
    | none =>
     obtain rfl:m = ys.length:=by
      have:=List.getElem?_eq_none_iff.mp hx
      rw [List.length_reverse] at this
      lia
     show u8 _ _ _ _ _ _
     rw [Nat.sub_self,List.drop_zero]
     tm_at "ww"
     exact h _ G3 J3 (.list a2.1 (fun i t v q1 q2=>(a2.2 i t v q1 q2).any g3) d3) s3 (g2.trans g3) (x2.trans x3)
    | some a =>
     have hlt:m < ys.length:=by have:=(List.getElem?_eq_some_iff.mp hx).1; simpa using this
     rw [List.getElem?_reverse hlt] at hx
     refine ⟨hlt,_,.name (by tm_at "mem") (by tm_at "up"),?_⟩
     have ec:=oC (e:=ev) hx
     tm_at "ww"
     refine FC (by tm_at "o") ?_
     tm_at "ww"
     refine ⟨some a,hlt,?_,rfl⟩
     rw [show ys.length - 1 - m + 1 = ys.length - m by lia] at ec
     rw [show ys.length - (m + 1) = ys.length - 1 - m by lia,← ec]
end
section
set_option bootstrap.genMatcherCode false
variable {n:Nat} {H:HS} {Q:AV→HS→Prop}
theorem qK {sg tb pt ti op i j:Nat} {G:Gs} {l:Lf} {v:AV} (hn:6≤n) (hg:H[sg]? = some (bL tb pt ti op)) (ht:H[tb]? = some (tbI i j)) (hs:SymT H i j G) (hx:l.ok) (hv:LfD G l v) (h:Q (.bool true) H):ac (BB W) n (.ref 2033) [.cell sg,v,be l] H Q:=by
 have hg':=hg
 unfold bL at hg'
 refine ab bQ (by tm_at "o") ?_
 cases l with
 | whole k =>
  cases hv
  unfold be
  tm_at "in"
  refine uq ?_
  tm_at "ww"
  refine i6 ?_
  tm_at "ww"
  rw [beq_self_eq_true]
  exact h
 | truth b =>
  cases hv
  unfold be
  tm_at "in"
  refine gF ?_
  tm_at "ww"
  refine DF ?_
  rw [beq_self_eq_true]
  tm_at "ww"
  exact h
 | sym w =>
  obtain ⟨k,rfl,hk⟩:=hv
  obtain ⟨a,ha⟩:=hs.syms _ (jl hk)
  unfold be
  tm_at "in"
  refine iP (by tm_at "o") hg ht hs hx fun k' G' H' a b c d e=>?_
  obtain ⟨rfl,rfl⟩:=e (by rw [hk]; intro q; cases q)
  rw [hk] at b; cases b
  tm_at "ww"
  refine z3 ?_
  tm_at "ww"
  exact h
 | str cs =>
  cases hv
  have hz:(ai cs).length≤100000:=by have:=hx.1; simp; lia
  have ei:ai cs = (cs.map fun c:Nat=>(c:Int)).map AV.int:=by rw [List.map_map]; rfl
  unfold be
  tm_at "in"
  refine gR .lst hz ?_
  tm_at "ww"
  refine yx (ks:=cs.map fun c:Nat=>(c:Int)) (.inl (by rw [ei])) (.inl (by rw [ei])) ?_
  tm_at "ww"
  exact h
 | chr c =>
  cases hv
  unfold be
  tm_at "in"
  rw [beq_self_eq_true]
  exact h
theorem LfD.hands {G:Gs} {l:Lf} {v:AV} (h:LfD G l v):aZ v = true:=lT.hands (e:=some l) h
theorem DatR.hands {Z:List Nat} {G:Gs} {t:Tr} {v:AV} (h:DatR Z H G t v):aZ v = true:=by
 cases h with
 | leaf h=>exact h.hands
 | list _ _ he=>exact ku he _
 | vec _ _ _ _=>rfl
theorem LSz.hands {Z:List Nat} {x:AV} {xs:List AV} (h:LSz Z H x xs):aZ x = true:=by
 rcases h with rfl | ⟨k,rfl,_⟩ <;> rfl
theorem DatR.app {Z:List Nat} {G:Gs} {t:Tr} {v:AV} {J:HS} (h:DatR Z H G t v):DatR Z (H++J) G t v:=h.mono (fun z hz=>⟨hz,fun c e=>aw e⟩) fun zz zz q=>q
theorem Bu {x y:AV} {xs ys:List AV} (h:LS H x xs) (k:LS H y ys) (i:Nat):mz x y i H = some (match xs[i]?,ys[i]? with
  | some a,some b=>some (.tup [a,b])
  | _,_=>none):=by
 unfold mz; rw [h.of,k.of] <;> rfl
inductive LkI (sg:Nat) (vs:List AV) (H:HS) (m:Nat) (loc:Loc) (J:HS):Prop
 | mk (o1 o2:Option AV) (h:m≤vs.length) (e:loc = [lq "setting" (some (.cell sg)),lq "one" o1,lq "other" o2]) (e2:J = H++[.list ((List.replicate m true).map .bool)])
inductive LlI (sg:Nat) (vs:List AV) (ev:AV) (ts:List Tr) (eo:Option Lf) (H:HS) (m:Nat) (loc:Loc) (J:HS):Prop
 | mk (o:Option AV) (h:m≤vs.length) (e:loc = [lq "setting" (some (.cell sg)),lq "value" (some (fG (vs.drop m) ev)),lq "tree" (some (.tup [.str (ae "list"),.lst (bE ts),lF eo])),lq "word" (some (.str (ae "list"))),lq "own" o]) (e2:H = J)
set_option tactic.hygienic true in
theorem jJ:∀ (k:Nat) (t:Tr),t.ok k→∀ {n:Nat} {H:HS} {Q:AV→HS→Prop} {sg tb pt ti op i j:Nat} {G:Gs} {Z:List Nat} {v:AV},2 * k + 8≤n→H[sg]? = some (bL tb pt ti op)→H[tb]? = some (tbI i j)→SymT H i j G→DatR Z H G t v→Q (.bool true) H →
  ac (BB W) n (.ref 2033) [.cell sg,v,trA t] H Q
 | k,.leaf l,ok,n,H,Q,sg,tb,pt,ti,op,i,j,G,Z,v,hn,hg,ht,hs,hd,h=>by
  have ok':l.ok:=by cases k <;> exact ok
  simp only [trA]
  cases hd with
  | leaf hv=>exact qK (by tm_at "o") hg ht hs ok' hv h
 | k + 1,.vec ts,⟨o1,o2⟩,n,H,Q,sg,tb,pt,ti,op,i,j,G,Z,v,hn,hg,ht,hs,hd,h=>by
  simp only [trA]
  cases hd with
  | vec hx hz hl hh =>
   rename_i vs x m
   have hls:=hx.ls
   have hxh:=hx.hands
   have hlA:(bE ts).length = vs.length:=by rw [cG,hl]
   refine (aJ.pure fun zz zz=>?_).call
   refine am bQ (by tm_at "o") ?_
   tm_at "in"
   refine Dp hls (by tm_at "o") ?_
   tm_at "ww"
   refine b7 (by rw [hlA,beq_self_eq_true]) ?_
   tm_at "ww"
   refine kz (sc':=gA) (loc0:=cu [lv' "setting" (.cell sg)] ["one","other"]) (.of (by kernel_rfl) (by simp)) ?_ (by intro _ _; rfl)
   refine MF ?_
   tm_at "ww"
   refine ⟨_,_,vs,bE ts,rfl,hls,.lst,LkI sg vs H,vs.length,⟨none,none,Nat.zero_le _,rfl,rfl⟩,?_⟩
   rintro m loc _ ⟨u1,u2,hm,rfl,rfl⟩
   rw [Bu hls.app .lst]
   cases hx:vs[m]? with
   | none =>
    obtain rfl:m = vs.length:=by
     have:=List.getElem?_eq_none_iff.mp hx
     lia
    rw [List.getElem?_eq_none (l:=bE ts) (by tm_at "o")]
    show VG _ _ _ _ _ _ _
    tm_at "ww"
    refine AS (.cell aB) ?_
    rw [show (List.replicate vs.length true).all id = true by simp]
    tm_at "ww"
    exact ⟨⟨_,rfl⟩,trivial,h⟩
   | some v =>
    have hlt:m < vs.length:=(List.getElem?_eq_some_iff.mp hx).1
    obtain ⟨a,ha⟩:∃ a,(bE ts)[m]? = some a:=⟨_,List.getElem?_eq_getElem (by tm_at "o")⟩
    rw [ha]
    obtain ⟨t,et,rfl⟩:=mm ha
    have hd:=hh m t v et hx
    refine ⟨hlt,[lq "setting" (some (.cell sg)),lq "one" (some v),lq "other" (some (trA t))],.tup (xs:=["one","other"]) rfl (by decide +kernel) (by tm_at "ups"),?_⟩
    simp only [gG,if_true]
    clear ha hx
    tm_at "ww"
    refine jJ k t (o2 t (List.mem_of_getElem? et)) (by tm_at "o") (aw hg) (aw ht) (hs.keep fun x c e zz=>aw e) hd.app ?_
    tm_at "ww"
    refine ⟨_,aB,by simp; lia,_,_,hlt,rfl,?_⟩
    rw [aq,List.replicate_succ',List.map_append]; rfl
 | k + 1,.list ts eo,⟨o1,o2,o3⟩,n,H,Q,sg,tb,pt,ti,op,i,j,G,Z,v,hn,hg,ht,hs,hd,h=>by
  simp only [trA]
  cases hd with
  | list hl hh he =>
   rename_i vs ev
   have hc:=ku he
   refine ab bQ (by tm_at "o") ?_
   tm_at "in"
   refine cB (gJ ?_)
   tm_at "ww"
   refine ⟨bE ts,.lst,LlI sg vs ev ts eo H,vs.length,⟨none,Nat.zero_le _,rfl,rfl⟩,?_⟩
   rintro m loc _ ⟨o,hm,rfl,rfl⟩
   rw [bV .lst]
   have hlA:(bE ts).length = vs.length:=by rw [cG,hl]
   cases hx:(bE ts)[m]? with
   | none =>
    obtain rfl:m = vs.length:=by
     have:=List.getElem?_eq_none_iff.mp hx
     lia
    show u8 _ _ _ _ _ _
    rw [List.drop_length]
    show u8 _ _ _ _ [_,lq "value" (some ev),_,_,_] _
    clear hx
    cases eo with
    | none =>
     cases he
     simp only [lF]
     tm_at "ww"
     refine fH ?_
     tm_at "ww"
     exact h
    | some l =>
     simp only [lF]
     have hl1:be l ≠ .none:=by cases l <;> (intro q; cases q)
     have hl2:be l ≠ .val .none:=by cases l <;> (intro q; cases q)
     tm_at "ww"
     refine kG hl1 hl2 ?_
     tm_at "ww"
     refine qK (by tm_at "o") hg ht hs (o3 l rfl).1 he ?_
     tm_at "ww"
     exact h
   | some a =>
    obtain ⟨t,et,rfl⟩:=mm hx
    have hlt:m < vs.length:=by have:=(List.getElem?_eq_some_iff.mp hx).1; lia
    obtain ⟨v,hv⟩:∃ v,vs[m]? = some v:=⟨_,List.getElem?_eq_getElem hlt⟩
    have hd:=hh m t v et hv
    have hvh:=hd.hands
    have hch:=hc (vs.drop (m + 1))
    refine ⟨hlt,_,.name (by tm_at "mem") (by tm_at "up"),?_⟩
    rw [← oC (e:=ev) hv]
    clear hx
    tm_at "ww"
    refine jJ k t (o2 t (List.mem_of_getElem? et)) (by tm_at "o") hg ht hs hd ?_
    tm_at "ww"
    exact ⟨_,hlt,rfl,rfl⟩
end
section
set_option bootstrap.genMatcherCode false
variable {n:Nat} {H:HS} {Q:AV→HS→Prop}
structure LI (H:HS) (rows:List AV) (G:Gs) (r:Nat):Prop where
 dk:bv H 0 r
 sg:H[1]? = some (bL 2 7 5 6)
 tb:H[2]? = some (tbI 3 4)
 sy:SymT H 3 4 G
 pt:H[7]? = some (ptI 12 13)
 pr:H[12]? = some (.list rows)
 ou:H[15]? = some (cV (.cell 14))
theorem SymT.ext {H':HS} {S:List Nat} {i j:Nat} {G:Gs} (h:SymT H i j G) (k:∀ s ∈ S,s ≠ i∧∃ c,H[s]? = some c∧(∀ kv,c ≠ .dict kv)∧∀ fs,c ≠ .inst 219 fs) (e:Ext S H H'):SymT H' i j G :=
 h.keep fun x c hx q=>e.get (fun hs=>by
  obtain ⟨k1,c',k2,k3,k4⟩:=k x hs
  rw [hx] at k2; cases k2
  rcases q with ⟨_,_,q⟩ | ⟨_,q⟩ | ⟨_,_,q⟩
  ·exact k1 q
  ·exact k3 _ q
  ·exact k4 _ q) hx
theorem LI.ext {H':HS} {rows:List AV} {G:Gs} {r r':Nat} {S:List Nat} (L:LI H rows G r) (e:Ext S H H') (hS:∀ s ∈ S,s ∉ [1,2,7,12,15]) (dk:bv H' 0 r') {G':Gs} (sy:SymT H' 3 4 G'):LI H' rows G' r' :=
 ⟨dk,e.get (fun q=>hS _ q (by decide)) L.sg,e.get (fun q=>hS _ q (by decide)) L.tb,sy,e.get (fun q=>hS _ q (by decide)) L.pt,e.get (fun q=>hS _ q (by decide)) L.pr,e.get (fun q=>hS _ q (by decide)) L.ou⟩
theorem LI.port {rows:List AV} {G:Gs} {r k o:Nat} (L:LI H rows G r) (hr:rows[k]? = some (.cell o)) (hk:k < 1000):PortAt H 1 k o:=⟨2,7,5,6,12,13,rows,L.sg,L.pt,L.pr,hr,hk⟩
theorem bv.ext {H':HS} {S:List Nat} {d r:Nat} (h:bv H d r) (e:Ext S H H') (hd:d ∉ S):bv H' d r:=by
 obtain ⟨xs,p,q,a⟩:=h
 exact ⟨xs,p,e.get hd q,a⟩
theorem bv.cell {d r:Nat} (h:bv H d r):∃ c,H[d]? = some c∧(∀ kv,c ≠ .dict kv)∧∀ fs,c ≠ .inst 219 fs:=by
 obtain ⟨xs,p,q,_⟩:=h
 exact ⟨_,q,(fun zz q=>by cases q),(fun zz q=>by cases q)⟩
theorem dW {s:Nat} {xs:List AV} (h:H[s]? = some (.list xs)):∃ c,H[s]? = some c∧(∀ kv,c ≠ .dict kv)∧∀ fs,c ≠ .inst 219 fs:=⟨_,h,(fun zz q=>by cases q),(fun zz q=>by cases q)⟩
theorem LI.drawn {H':HS} {rows:List AV} {G:Gs} {r r':Nat} (L:LI H rows G r) (dk:bv H' 0 r') (s:SB 0 H H'):LI H' rows G r' :=
 L.ext s.ext (by simp) dk (L.sy.ext (fun x hx=>by obtain rfl:=List.mem_singleton.mp hx; exact ⟨by decide,L.dk.cell⟩) s.ext)
noncomputable def Bl (bl:List Nat):Prop:=bl = [32] ∨ bl = [32,10] ∨ bl = [10]
theorem LI.wrote {rows xs ys:List AV} {G:Gs} {r:Nat} (L:LI H rows G r) (hc:H[14]? = some (.list xs)):LI (H.set 14 (.list ys)) rows G r∧(H.set 14 (.list ys))[14]? = some (.list ys)∧Ext [14] H (H.set 14 (.list ys)):=by
 have e:Ext [14] H (H.set 14 (.list ys)):=Ext.refl.set (.inl (.head _))
 refine ⟨L.ext e (by simp) (L.dk.ext e (by simp)) (L.sy.ext (fun x hx=>by obtain rfl:=List.mem_singleton.mp hx; exact ⟨by decide,dW hc⟩) e),aj hc,e⟩
theorem rY {rows xs:List AV} {G:Gs} {r:Nat} (hn:9≤n) (L:LI H rows G (r + 1)) (hr:rows[2]? = some (.cell 15)) (hc:H[14]? = some (.list xs)) (hz:xs.length + 2≤100000)
  (h:∀ bl H',Bl bl→LI H' rows G r→H'[14]? = some (.list (xs++ai bl))→Ext [0,14] H H'→Q (.lst (ai bl)) H'):ac (BB W) n (.ref 2040) [.cell 0,.cell 1,stA 2,poA 2] H Q:=by
 have up:∀ {H1 H2:HS},Ext [14] H1 H2→Ext [0,14] H1 H2:=fun e=>e.mono fun x hx=>.tail _ hx
 refine ab ry (by tm_at "o") ?_
 tm_at "in"
 refine aS (r:=r) (by tm_at "o") L.dk (by tm_at "o") fun v H1 v0 v1 d1 s1=>?_
 have L1:=L.drawn d1 s1
 have c1:H1[14]? = some (.list xs):=s1.get (by decide) hc
 have x1:Ext [0,14] H H1:=s1.ext.mono fun x hx=>by obtain rfl:=List.mem_singleton.mp hx; exact .head _
 obtain ⟨w,rfl⟩:∃ w:Nat,v = w:=⟨v.toNat,by lia⟩
 have hw:w = 0 ∨ w = 1 ∨ w = 2:=by lia
 clear v0 v1 hc
 rcases hw with rfl | rfl | rfl
 ·repeat (first | tm_at "w" | refine aA ?_)
  refine me (by tm_at "o") ?_
  tm_at "ww"
  refine eE (c:=32) (by tm_at "o") (L1.port hr (by decide)) L1.ou c1 (by tm_at "o") ?_
  obtain ⟨L2,c2,x2⟩:=L1.wrote (ys:=xs++[.int ((32:Nat):Int)]) c1
  repeat (first | tm_at "w" | refine aA ?_)
  exact h [32] _ (.inl rfl) L2 c2 (x1.trans (up x2))
 ·repeat (first | tm_at "w" | refine aA ?_)
  refine me (by tm_at "o") ?_
  tm_at "ww"
  refine eE (c:=32) (by tm_at "o") (L1.port hr (by decide)) L1.ou c1 (by tm_at "o") ?_
  obtain ⟨L2,c2,x2⟩:=L1.wrote (ys:=xs++[.int ((32:Nat):Int)]) c1
  generalize H1.set 14 (.list (xs++[.int ((32:Nat):Int)])) = H2 at *
  repeat (first | tm_at "w" | refine aA ?_)
  refine iI (by tm_at "o") (L2.port hr (by decide)) L2.ou c2 (by simp; lia) ?_
  obtain ⟨L3,c3,x3⟩:=L2.wrote (ys:=xs++[.int ((32:Nat):Int)]++[.int 10]) c2
  repeat (first | tm_at "w" | refine aA ?_)
  exact h [32,10] _ (.inr (.inl rfl)) L3 (by rw [c3]; simp [ai]) (x1.trans (up (x2.trans x3)))
 ·repeat (first | tm_at "w" | refine aA ?_)
  refine iI (by tm_at "o") (L1.port hr (by decide)) L1.ou c1 (by tm_at "o") ?_
  obtain ⟨L2,c2,x2⟩:=L1.wrote (ys:=xs++[.int 10]) c1
  repeat (first | tm_at "w" | refine aA ?_)
  exact h [10] _ (.inr (.inr rfl)) L2 c2 (x1.trans (up x2))
theorem HWf.set {i:Nat} {c:Cell} (h:HWf H) (hc:c.bd H.length):HWf (H.set i c):=fun x hx=>by
 rw [List.length_set]
 rcases List.mem_or_eq_of_mem_set hx with q | rfl
 ·exact h x q
 ·exact hc
theorem sU {rows:List AV} {G:Gs} {r o p c:Nat} {cs:List Nat} (hn:9≤n) (L:LI H rows G r) (hr:rows[3]? = some (.cell o)) (ho:H[o]? = some (inI (.lst (ai cs)) p)) (hz:cs.length≤100000) (hc:cs[p]? = some c)
  (h:Q (.bool true) (H.set o (inI (.lst (ai cs)) (p + 1)))):ac (BB W) n (.ref 2045) [.cell 1,stA 2,poA 3,.int (c:Int)] H Q:=by
 have hz':(ai cs).length≤100000:=by simpa using hz
 have hc':(ai cs)[p]? = some (.int (c:Int)):=by simp only [ai,List.getElem?_map,hc]; rfl
 have hp:=L.port hr (by decide)
 refine (aJ.gc fun hw zz=>?_).call
 refine am jF (by tm_at "o") ?_
 tm_at "in"
 repeat (first | tm_at "w" | refine aA ?_)
 refine ot (by tm_at "o") hp ho hz' hc' ?_
 repeat (first | tm_at "w" | refine aA ?_)
 refine mU (by tm_at "o") hp ho hz' hc' ?_
 have hw2:HWf (H.set o (inI (.lst (ai cs)) (p + 1))):=hw.set (by unfold inI; simp only [Cell.bd,List.map_cons,List.map_nil,AV.bds,AV.bd]; exact ⟨cH,trivial,trivial,trivial,trivial⟩)
 have hl2:H.length≤(H.set o (inI (.lst (ai cs)) (p + 1))).length:=by rw [List.length_set]; exact Nat.le_refl _
 generalize H.set o (inI (.lst (ai cs)) (p + 1)) = H2 at *
 tm_at "ww"
 refine bG (fr:=[lv' "code" (.int (c:Int))]) (sc':=gz) (.of (by kernel_rfl) (by simp)) (by tm_at "mem") ?_
 refine gJ ?_
 tm_at "ww"
 refine ⟨_,.lst,[chA c,chA c],fun zz=>.bool true,by simp,fun i J=>bV .lst i,fun a J ha=>?_,?_⟩
 ·obtain rfl:a = chA c:=by simpa using ha
  clear ha
  tm_at "go"
  rw [beq_self_eq_true]
  exact ⟨rfl,rfl⟩
 ·tm_at "ww"
  refine AS (bs:=[true,true]) (.cell aB) ?_
  tm_at "ww"
  exact ⟨H2,_,rfl,hl2,hw2,trivial,h⟩
end
section
set_option bootstrap.genMatcherCode false
variable {n:Nat} {H:HS} {Q:AV→HS→Prop}
theorem Ge (hn:7≤n) (h1:H.length = 1) (h:∀ H1:HS,H1.length = 14→H1[0]? = H[0]?→H1[1]? = some (bL 2 7 5 6)→H1[2]? = some (tbI 3 4)→SymT H1 3 4 []→H1[7]? = some (ptI 12 13)→H1[12]? = some (.list [.cell 9,.cell 11])→Q (.cell 1) H1):ac (BB W) n (.ref 1999) [.int 8,.int 100000] H Q:=by
 obtain ⟨c,rfl⟩:=List.length_eq_one_iff.mp h1
 refine th hn ?_
 exact h _ rfl rfl rfl rfl ⟨⟨[],rfl,rfl⟩,rfl,(fun g hg=>by cases hg),List.nodup_nil,(fun g hg=>by cases hg)⟩ rfl rfl
theorem F6 {t:AV} {r:Nat} (hn:5≤n) (hl:H.length = 14) (hd:bv H 0 r) (h1:H[1]? = some (bL 2 7 5 6)) (h2:H[2]? = some (tbI 3 4)) (hs:SymT H 3 4 []) (h7:H[7]? = some (ptI 12 13)) (h12:H[12]? = some (.list [.cell 9,.cell 11]))
  (h:∀ H',H'.length = 16→LI H' [.cell 9,.cell 11,.cell 15] [] r→H'[14]? = some (.list [])→Q (poA 2) H'):ac (BB W) n (.ref 1463) [.cell 1,stA 2,t] H Q:=by
 refine qy hn h1 h7 h12 (by simp) ?_
 have x:Ext [12] H ((H++[.list [],cV (.cell H.length)]).set 12 (.list ([.cell 9,.cell 11]++[.cell (H.length + 1)]))):=Ext.refl.appJ.set (.inl (.head _))
 rw [hl] at x ⊢
 refine h _ (by simp [hl]) ⟨hd.ext x (by simp),x.get (by simp) h1,x.get (by simp) h2,hs.ext (fun s hs=>by obtain rfl:=List.mem_singleton.mp hs; exact ⟨by decide,dW h12⟩) x,x.get (by simp) h7,aj (aw h12),?_⟩ ?_
 ·rw [List.getElem?_set_ne (by decide),List.getElem?_append_right (by tm_at "o"),hl]; rfl
 ·rw [List.getElem?_set_ne (by decide),List.getElem?_append_right (by tm_at "o"),hl]; rfl
noncomputable def Q7:Stmt→List Stmt
 | .For _ _ b _ _=>b
 | _=>[]
noncomputable def Wq:List Stmt:=Q7 (sT 4 (fb z1))
noncomputable def La:List Stmt:=Q7 (sT 7 (fb z1))
noncomputable def Sp:List Stmt:=Q7 (sT 8 (fb z1))
noncomputable abbrev Row:=Tr × List Nat
noncomputable def CS (r:Row):AV:=.tup [trA r.1,.lst (ai r.2)]
noncomputable def cv:List Row→List Nat
 | []=>[]
 | r :: rs=>tx r.1++(r.2++cv rs)
theorem vG:∀ a b:List Row,cv (a++b) = cv a++cv b
 | [],_=>rfl
 | r :: a,b=>by simp only [List.cons_append,cv,vG a b,List.append_assoc]
noncomputable def Row.ok (r:Row):Prop:=r.1.ok 2∧Bl r.2
theorem Bl.len {bl:List Nat} (h:Bl bl):bl.length≤2:=by rcases h with rfl | rfl | rfl <;> decide
theorem oy:∀ {rs:List Row},(∀ r ∈ rs,Row.ok r)→(cv rs).length≤160 * rs.length
 | [],_=>by simp [cv]
 | r :: rs,h=>by
  have h1:=tc 2 r.1 (h r (.head _)).1
  have h2:=(h r (.head _)).2.len
  have h3:=oy (rs:=rs) fun q hq=>h q (.tail _ hq)
  simp only [tA] at h1
  simp only [cv,List.length_append,List.length_cons]
  lia
noncomputable def b9 (x turn tree whole seen reading signs code:Option AV):Loc:=[lq "script" x,lq "deck" (some (.cell 0)),lq "setting" (some (.cell 1)),lq "store" (some (stA 2)),lq "port" (some (poA 2)),lq "rows" (some (.cell 16)),lq "turn" turn,lq "tree" tree,lq "whole" whole,lq "seen" seen,lq "reading" reading,lq "signs" signs,lq "code" code]
structure Made (H:HS) (prs:List AV) (G:Gs) (r:Nat) (rs:List Row):Prop where
 li:LI H prs G r
 out:H[14]? = some (.list (ai (cv rs)))
 rw_:H[16]? = some (.list (rs.map CS))
 ok:∀ r ∈ rs,Row.ok r
theorem LI.app {rows xs ys:List AV} {G:Gs} {r:Nat} {J:HS} (L:LI H rows G r) (hc:H[14]? = some (.list xs)):LI ((H++J).set 14 (.list ys)) rows G r∧((H++J).set 14 (.list ys))[14]? = some (.list ys)∧Ext [14] H ((H++J).set 14 (.list ys)):=by
 have e:Ext [14] H ((H++J).set 14 (.list ys)):=Ext.refl.appJ.set (.inl (.head _))
 refine ⟨L.ext e (by simp) (L.dk.ext e (by simp)) (L.sy.ext (fun x hx=>by obtain rfl:=List.mem_singleton.mp hx; exact ⟨by decide,dW hc⟩) e),aj (aw hc),e⟩
theorem Bo {prs:List AV} {G:Gs} {r:Nat} {rs:List Row} {x a b c d e f g:Option AV} {Q:AF→Loc→HS→Prop} (hn:16≤n) (M:Made H prs G (r + 78) rs) (hr:prs[2]? = some (.cell 15)) (hz:rs.length≤10)
  (h:∀ tr G' H' rs',rs'.length = rs.length + 1→Made H' prs G' r rs'→Q .next (b9 x a tr c d e f g) H'):XS (BB W) n nR (b9 x a b c d e f g) H Wq Q:=by
 unfold b9
 tm_at "ww"
 refine qH 2 (r:=r + 1) (by tm_at "o") (M.li.dk.less (by simp [kr])) fun t H1 ok d1 s1=>?_
 have L1:=M.li.drawn d1 s1
 have o1:=s1.get (by decide) M.out
 have r1:=s1.get (by decide) M.rw_
 tm_at "ww"
 refine aA ?_
 tm_at "ww"
 refine gS 2 t ok (by tm_at "o") L1.sg L1.tb L1.sy fun v G' H2 dv sy2 g2 x2=>?_
 have L2:=L1.ext x2 (by simp) (L1.dk.ext x2 (by simp)) sy2
 have o2:=x2.get (by simp) o1
 have r2:=x2.get (by simp) r1
 obtain ⟨k,hk,hw⟩:=t7 sy2.syms 2 t v ok dv
 have hk':k≤33:=hk
 have ht:=tc 2 t ok
 have hr0:=oy M.ok
 simp only [tA] at ht
 tm_at "ww"
 refine wl (by tm_at "o") L2.sg (L2.port hr (by decide)) L2.ou o2 hw (by tm_at "o") (by tm_at "o") (by simp; lia) fun J=>?_
 obtain ⟨L3,o3,x3⟩:=L2.app (J:=J) (ys:=ai (cv rs)++ai (tx t)) o2
 have r3:=x3.get (by simp) r2
 generalize (H2++J).set 14 (.list (ai (cv rs)++ai (tx t))) = H3 at *
 tm_at "ww"
 refine rY (by tm_at "o") L3 hr o3 (by simp; lia) fun bl H4 hb L4 o4 x4=>?_
 have r4:=x4.get (by simp) r3
 tm_at "ww"
 have x5:Ext [16] H4 (H4.set 16 (.list (rs.map CS++[.tup [trA t,.lst (ai bl)]]))):=Ext.refl.set (.inl (.head _))
 refine h _ G' _ (rs++[(t,bl)]) (by simp) ⟨L4.ext x5 (by simp) (L4.dk.ext x5 (by simp)) (L4.sy.ext (fun s hs=>by obtain rfl:=List.mem_singleton.mp hs; exact ⟨by decide,dW r4⟩) x5),?_,?_,fun q hq=>?_⟩
 ·rw [x5.get (by simp) o4,vG]; simp [cv,ai]
 ·rw [aj r4]; simp [CS]
 ·rcases List.mem_append.mp hq with hq | hq
  ·exact M.ok q hq
  ·obtain rfl:=List.mem_singleton.mp hq
   exact ⟨ok,hb⟩
end
section
set_option bootstrap.genMatcherCode false
variable {n:Nat} {H:HS} {Q:AV→HS→Prop}
theorem Bl.bl {bl:List Nat} (h:Bl bl):∀ c ∈ bl,c = 32 ∨ c = 10:=by rcases h with rfl | rfl | rfl <;> (intro c hc; simp at hc; lia)
theorem Bl.stop {bl R:List Nat} (h:Bl bl):ge (bl++R):=by
 rcases h with rfl | rfl | rfl
 ·exact dG d32
 ·exact dG d32
 ·exact dG (by rw [ez]; rfl)
theorem yz:∀ {rs:List Row},(∀ r ∈ rs,Row.ok r)→∀ c ∈ cv rs,c≤1114111
 | [],_,c,h=>by cases h
 | r :: rs,k,c,h=>by
  simp only [cv,List.mem_append] at h
  rcases h with h | h | h
  ·exact Bb 2 _ (k r (.head _)).1 c h
  ·rcases (k r (.head _)).2.bl c h with rfl | rfl <;> decide
  ·exact yz (fun q hq=>k q (.tail _ hq)) c h
theorem yS {o p:Nat} {x:AV} (h:H[o]? = some (inI x p)):∃ c,H[o]? = some c∧(∀ kv,c ≠ .dict kv)∧∀ fs,c ≠ .inst 219 fs:=⟨_,h,(fun zz q=>by cases q),(fun zz q=>by cases q)⟩
theorem LI.moved {prs:List AV} {G:Gs} {r o p p':Nat} {x:AV} (L:LI H prs G r) (ho:H[o]? = some (inI x p)) (h17:17≤o):LI (H.set o (inI x p')) prs G r∧(H.set o (inI x p'))[o]? = some (inI x p')∧Ext [o] H (H.set o (inI x p')):=by
 have e:Ext [o] H (H.set o (inI x p')):=Ext.refl.set (.inl (.head _))
 refine ⟨L.ext e (by intro s hs; obtain rfl:=List.mem_singleton.mp hs; simp; lia) (L.dk.ext e (by simp; lia)) (L.sy.ext (fun s hs=>by obtain rfl:=List.mem_singleton.mp hs; exact ⟨by lia,yS ho⟩) e),aj ho,e⟩
inductive CdI (x a b c d:Option AV) (prs:List AV) (G:Gs) (r o p w:Nat) (cs sg:List Nat) (H:HS) (i:Nat) (loc:Loc) (J:HS):Prop
 | mk (cd:Option AV) (e:loc = b9 x a b c d (some (poA 3)) (some (.lst (ai sg))) cd) (h:i≤(sg.take w).length) (l:LI J prs G r) (e3:J[o]? = some (inI (.lst (ai cs)) (p + i))) (e4:Ext [0,o] H J)
theorem vX {prs:List AV} {G:Gs} {r o p:Nat} {cs sg:List Nat} {x a b c d g:Option AV} {Q:AF→Loc→HS→Prop} (hn:12≤n) (L:LI H prs G (r + 1)) (hr:prs[3]? = some (.cell o)) (ho:H[o]? = some (inI (.lst (ai cs)) p)) (h17:17≤o) (hz:cs.length≤100000) (hs:Bl sg) (hc:∀ j,j < sg.length→cs[p + j]? = sg[j]?)
  (h:∀ u cd H',u≤sg.length→LI H' prs G r→H'[o]? = some (inI (.lst (ai cs)) (p + u))→Ext [0,o] H H'→Q .next (b9 x a b c d (some (poA 3)) (some (.lst (ai sg))) cd) H'):XO (BB W) n nR (b9 x a b c d (some (poA 3)) (some (.lst (ai sg))) g) H (sT 1 La) Q:=by
 have hl:=hs.len
 unfold b9
 refine cB (gJ ?_)
 tm_at "ww"
 refine aS (r:=r) (by tm_at "o") L.dk (by tm_at "o") fun w H1 w0 w1 d1 s1=>?_
 have L1:=L.drawn d1 s1
 have o1:=s1.get (by tm_at "o") ho
 obtain ⟨w,rfl⟩:∃ k:Nat,w = k:=⟨w.toNat,by lia⟩
 tm_at "ww"
 refine ma .lst (by simp; lia) .none (.int _) .none (by intro q; cases q) ?_
 rw [oz,show (ai sg).take w = ai (sg.take w) by simp [ai]]
 have hlt:(sg.take w).length≤sg.length:=by rw [List.length_take]; lia
 refine ⟨_,.lst,CdI x a b c d prs G r o p w cs sg H,(sg.take w).length,⟨_,rfl,Nat.zero_le _,L1,o1,s1.ext.mono (by simp)⟩,?_⟩
 rintro i loc J ⟨cd,rfl,hi,LJ,oJ,xJ⟩
 rw [bV .lst]
 cases hx:(ai (sg.take w))[i]? with
 | none =>
  obtain rfl:i = (sg.take w).length:=by
   have:=List.getElem?_eq_none_iff.mp hx
   simp only [ai,List.length_map] at this
   lia
  exact h _ _ _ hlt LJ oJ xJ
 | some q =>
  have hi':i < (sg.take w).length:=by have:=(List.getElem?_eq_some_iff.mp hx).1; simpa [ai] using this
  obtain ⟨c0,e0⟩:∃ c0,sg[i]? = some c0:=⟨_,List.getElem?_eq_getElem (by tm_at "o")⟩
  obtain rfl:q = .int (c0:Int):=by
   simp only [ai,List.getElem?_map,List.getElem?_take_of_lt (show i < w by rw [List.length_take] at hi'; lia),e0] at hx
   cases hx; rfl
  clear hx
  unfold b9
  refine ⟨hi',_,.name (by tm_at "mem") (by tm_at "up"),?_⟩
  obtain ⟨L2,o2,x2⟩:=LJ.moved (p':=p + i + 1) oJ h17
  tm_at "ww"
  refine sU (by tm_at "o") LJ hr oJ hz (by rw [hc i (by tm_at "o"),e0]) ?_
  tm_at "ww"
  exact ⟨_,rfl,hi',L2,o2,xJ.trans (x2.mono (by simp))⟩
theorem Tb:rr 2 = 25:=rfl
theorem DZ {prs:List AV} {G:Gs} {r o:Nat} {cs A bl sg R:List Nat} {t:Tr} {x a c d g:Option AV} {Q:AF→Loc→HS→Prop} (hn:16≤n) (L:LI H prs G (r + 1)) (hr:prs[3]? = some (.cell o)) (ho:H[o]? = some (inI (.lst (ai cs)) A.length)) (h17:17≤o) (hz:cs.length≤100000) (hv:∀ c ∈ cs,c≤1114111)
  (ok:t.ok 2) (hs:Bl sg) (hb:∀ c ∈ bl,c = 32 ∨ c = 10) (e:cs = A++(bl++(tx t++(sg++R))))
  (h:∀ u cd G' H',u≤sg.length→LI H' prs G' r→H'[o]? = some (inI (.lst (ai cs)) (A.length + (bl.length + (tx t).length) + u))→Ext [0,3,4,o] H H'→Q .next (b9 x a (some (trA t)) c d (some (poA 3)) (some (.lst (ai sg))) cd) H'):XS (BB W) n nR (b9 x a (some (trA t)) c d (some (poA 3)) (some (.lst (ai sg))) g) H La Q:=by
 have htk:=tV 2 t ok
 rw [Tb] at htk
 unfold b9
 tm_at "ww"
 refine aA ?_
 tm_at "ww"
 refine n0 (by tm_at "o") L.sg (L.port hr (by decide)) ho hz hv L.tb L.sy (z9 ok e hb hs.stop) (EN 2 t ok) (by tm_at "o") fun v Z G' H1 dv sy1 g1 x1 o1=>?_
 have L1:=L.ext x1 (by intro s hs; simp at hs; simp; lia) (L.dk.ext x1 (by simp; lia)) sy1
 tm_at "ww"
 refine jJ 2 t ok (by tm_at "o") L1.sg L1.tb sy1 dv ?_
 tm_at "ww"
 refine vX (by tm_at "o") L1 hr o1 h17 hz hs (fun j hj=>?_) fun u cd H2 hu L2 o2 x2=>?_
 ·rw [e,show A++(bl++(tx t++(sg++R))) = (A++(bl++tx t))++(sg++R) by simp,show A.length + (bl.length + (tx t).length) = (A++(bl++tx t)).length by simp]
  exact ko hj
 ·tm_at "ww"
  exact h u cd G' H2 hu L2 o2 ((x1.mono (by intro s hs; simp at hs ⊢; lia)).trans (x2.mono (by intro s hs; simp at hs ⊢; lia)))
theorem Ap {prs:List AV} {G:Gs} {r o:Nat} {cs A bl:List Nat} {x a b c d f g:Option AV} {Q:AF→Loc→HS→Prop} (hn:16≤n) (L:LI H prs G r) (hr:prs[3]? = some (.cell o)) (ho:H[o]? = some (inI (.lst (ai cs)) A.length)) (h17:17≤o) (hz:cs.length≤100000) (hv:∀ c ∈ cs,c≤1114111) (hb:∀ c ∈ bl,c = 32 ∨ c = 10) (e:cs = A++bl)
  (h:∀ H',LI H' prs G r→H'[o]? = some (inI (.lst (ai cs)) cs.length)→Q .next (b9 x a b c d (some (poA 3)) f g) H'):XS (BB W) n nR (b9 x a b c d (some (poA 3)) f g) H Sp Q:=by
 unfold b9
 tm_at "ww"
 refine aA ?_
 tm_at "ww"
 refine pZ (by tm_at "o") L.sg (L.port hr (by decide)) ho hz hv (zD e hb) fun H1 x1 o1=>?_
 have L1:=L.ext x1 (by intro s hs; simp at hs; simp; lia) (L.dk.ext x1 (by simp; lia)) (L.sy.ext (fun s hs=>by obtain rfl:=List.mem_singleton.mp hs; exact ⟨by lia,yS ho⟩) x1)
 tm_at "ww"
 refine zx (by tm_at "o") rfl ?_
 tm_at "ww"
 refine h H1 L1 ?_
 rw [o1,e]
 simp
end
section
set_option bootstrap.genMatcherCode false
variable {n:Nat} {H:HS} {Q:AV→HS→Prop}
inductive LwI (ns:List Int) (k i:Nat) (loc:Loc) (J:HS):Prop
 | mk (tn tr:Option AV) (rs:List Row) (G:Gs) (e:loc = b9 (some (.arg (ns.map .int))) tn tr none none none none none) (h:i≤k + 1) (l:rs.length = i) (m:Made J [.cell 9,.cell 11,.cell 15] G (999 - 78 * i) rs)
inductive LvI (ns:List Int) (tn:Option AV) (cs:List Nat) (rs:List Row) (o i:Nat) (loc:Loc) (J:HS):Prop
 | mk (tr sg cd:Option AV) (G:Gs) (A bl:List Nat) (e:loc = b9 (some (.arg (ns.map .int))) tn tr (some (txA cs .none)) (some (.lst (ai cs))) (some (poA 3)) sg cd) (h:i≤rs.length) (l:LI J [.cell 9,.cell 11,.cell 15,.cell o] G (600 - i)) (p:J[o]? = some (inI (.lst (ai cs)) A.length)) (r:J[16]? = some (.list (rs.map CS))) (t:cs = A++(bl++cv (rs.drop i))) (b:∀ c ∈ bl,c = 32 ∨ c = 10)
inductive LuI (ns:List Int) (tr sg cd:Option AV) (cs:List Nat) (G:Gs) (r o i:Nat) (loc:Loc) (J:HS):Prop
 | mk (tn:Option AV) (A bl:List Nat) (e:loc = b9 (some (.arg (ns.map .int))) tn tr (some (txA cs .none)) (some (.lst (ai cs))) (some (poA 3)) sg cd) (l:LI J [.cell 9,.cell 11,.cell 15,.cell o] G r) (p:J[o]? = some (inI (.lst (ai cs)) A.length)) (t:cs = A++bl) (b:∀ c ∈ bl,c = 32 ∨ c = 10)
theorem r9 {n:Nat} {H:HS} {sc:List (Str × NameKind)} {loc:Loc} {Q:AF→Loc→HS→Prop} {target iter:Expr} {body:List Stmt} {pos:Pos}
  (h:ITV (BB W) n sc loc H target iter fun nxt H1=>∃ (P:Nat→Loc→HS→Prop) (N:Nat),P 0 loc H1∧∀ i loc H,P i loc H→match nxt i H with
   | none=>False
   | some none=>Q .next loc H
   | some (some a)=>i < N∧∃ loc',Tgt sc target a loc loc'∧XS (BB W) n sc loc' H body (wLo P (i + 1) Q))
  (hs:autoParam (∀ env x,foldedSetIterable iter env x = pure x) bD):XO (BB W) n sc loc H (.For target iter body [] pos) Q:=by
 refine xv (ITV.mono h ?_) hs
 rintro nxt H1 ⟨P,N,p0,st⟩
 refine ⟨P,N,p0,fun i loc H p=>?_⟩
 have:=st i loc H p
 revert this
 cases nxt i H with
 | none=>exact id
 | some o=>cases o with
  | none=>exact id
  | some a=>exact fun ⟨h1,l',t,q⟩=>⟨h1,l',t,SV.mono q fun f l H2 q=>by
   cases f with
   | next=>exact q.out
   | cont=>exact q.out
   | brk=>exact q
   | ret a=>exact q⟩
theorem A2 {ns:List Int} (hn:18≤n) (hz:ns.length≤63) (h:∀ H',Q (.bool true) H'):ac (BB W) n (.ref 2052) [.arg (ns.map .int)] [] Q:=by
 refine ab Qw (by tm_at "o") ?_
 tm_at "in"
 refine zO (by tm_at "o") hz fun xs l1 l2=>?_
 simp only [List.length_nil,List.nil_append]
 have d0:bv [Cell.list [.lst (xs.map .int),.int 0]] 0 1000:=⟨xs,0,rfl,l1,l2,by lia,by lia⟩
 have h0:([Cell.list [.lst (xs.map .int),.int 0]]:HS).length = 1:=rfl
 generalize [Cell.list [.lst (xs.map .int),.int 0]] = H0 at *
 tm_at "ww"
 refine Ge (by tm_at "o") h0 fun H1 l0 e0 e1 e2 sy e7 e12=>?_
 have d1:bv H1 0 1000:=by
  obtain ⟨ys,p,q,a⟩:=d0
  exact ⟨ys,p,e0.trans q,a⟩
 have e1':=e1
 unfold bL at e1'
 tm_at "ww"
 refine j5 (by tm_at "o") ?_
 tm_at "ww"
 refine aA ?_
 tm_at "ww"
 refine F6 (by tm_at "o") l0 d1 e1 e2 sy e7 e12 fun H2 l2 L2 o2=>?_
 clear e0 e1 e1' e2 sy e7 e12 d0 d1 l0 h0
 tm_at "ww"
 refine aR ?_
 tm_at "ww"
 rw [l2]
 have x2:Ext [] H2 (H2++[.list []]):=Ext.refl.appJ
 have r2:(H2++[Cell.list []])[16]? = some (.list []):=by rw [← l2]; exact aB
 have M2:Made (H2++[.list []]) [.cell 9,.cell 11,.cell 15] [] 1000 []:=⟨L2.ext x2 (by simp) (L2.dk.ext x2 (by simp)) (L2.sy.ext (by simp) x2),x2.get (by simp) o2,r2,by simp⟩
 generalize H2++[Cell.list []] = H3 at *
 clear x2 r2 o2 L2 l2
 refine r9 (cJ ?_)
 tm_at "ww"
 refine aS (r:=999) (by tm_at "o") M2.li.dk (by tm_at "o") fun v H4 v0 v1 d4 s4=>?_
 have M4:Made H4 [.cell 9,.cell 11,.cell 15] [] 999 []:=⟨M2.li.drawn d4 s4,s4.get (by decide) M2.out,s4.get (by decide) M2.rw_,by simp⟩
 clear M2 d4 s4
 obtain ⟨k,rfl⟩:∃ k:Nat,v = k:=⟨v.toNat,by lia⟩
 tm_at "ww"
 obtain ⟨r1,r2,r3⟩:=Be (k:=k + 1) (by tm_at "o")
 refine ⟨0,((k + 1:Nat):Int),1,by rw [show ((k + 1:Nat):Int) = 1 + (k:Int) by lia],r1,r2,LwI ns k,k + 1,⟨none,none,[],[],rfl,Nat.zero_le _,rfl,M4⟩,?_⟩
 rw [r3]
 clear r1 r2 r3 M4
 rintro i loc J ⟨tn,tr,rs,G,rfl,hi,hl,M⟩
 by_cases c1:i < k + 1
 ·rw [show aG 0 1 (k + 1) i J = some (some (.int (0 + i * 1))) by unfold aG; rw [if_pos c1]]
  refine ⟨c1,b9 (some (.arg (ns.map .int))) (some (.int (0 + i * 1))) tr none none none none none,.name (by tm_at "mem") (by unfold b9; tm_at "up"),?_⟩
  refine Bo (r:=999 - 78 * (i + 1)) (by tm_at "o") (by rw [show 999 - 78 * (i + 1) + 78 = 999 - 78 * i by omega]; exact M) rfl (by tm_at "o") fun tr' G' J' rs' hl' M'=>?_
  exact ⟨_,_,rs',G',rfl,c1,by lia,M'⟩
 ·rw [show aG 0 1 (k + 1) i J = some none by unfold aG; rw [if_neg c1]]
  obtain rfl:i = k + 1:=by lia
  unfold b9
  have ou:=M.li.ou
  have hz1:=oy M.ok
  tm_at "ww"
  refine aA ?_
  tm_at "ww"
  refine kO (by tm_at "o") (M.li.port rfl (by decide)) M.li.ou M.out (by tm_at "o") ?_
  tm_at "ww"
  have hk:k≤3:=by lia
  obtain ⟨L,out,r16,ok⟩:=M
  have L:LI J [.cell 9,.cell 11,.cell 15] G 600:=⟨L.dk.less (by tm_at "o"),L.sg,L.tb,L.sy,L.pt,L.pr,L.ou⟩
  have hj:17≤J.length:=ar r16
  clear ou
  refine gR .lst (by simp; lia) ?_
  repeat (first | tm_at "w" | refine aA ?_)
  refine tK (by tm_at "o") L.sg L.pt L.pr (by simp) (by tm_at "o") ?_
  have x5:Ext [12] J ((J++[inI (.lst (ai (cv rs))) 0]).set 12 (.list ([.cell 9,.cell 11,.cell 15]++[.cell J.length]))):=Ext.refl.appJ.set (.inl (.head _))
  have o5:((J++[inI (.lst (ai (cv rs))) 0]).set 12 (.list ([.cell 9,.cell 11,.cell 15]++[.cell J.length])))[J.length]? = some (inI (.lst (ai (cv rs))) 0):=ao (by tm_at "o") aB
  have L5:LI ((J++[inI (.lst (ai (cv rs))) 0]).set 12 (.list ([.cell 9,.cell 11,.cell 15]++[.cell J.length]))) [.cell 9,.cell 11,.cell 15,.cell J.length] G 600 :=
   ⟨L.dk.ext x5 (by simp),x5.get (by simp) L.sg,x5.get (by simp) L.tb,L.sy.ext (fun s hs=>by obtain rfl:=List.mem_singleton.mp hs; exact ⟨by decide,dW L.pr⟩) x5,x5.get (by simp) L.pt,aj (aw L.pr),x5.get (by simp) L.ou⟩
  have r5:=x5.get (by simp) r16
  generalize (J++[inI (.lst (ai (cv rs))) 0]).set 12 (.list ([.cell 9,.cell 11,.cell 15]++[.cell J.length])) = J5 at *
  clear x5 L out r16
  generalize J.length = o at *
  have hle:=yz ok
  tm_at "ww"
  generalize hcs:cv rs = cs at *
  refine r9 (gJ ?_)
  tm_at "ww"
  refine ⟨_,.cell r5,LvI ns tn cs rs o,rs.length,⟨tr,none,none,G,[],[],rfl,Nat.zero_le _,L5,o5,r5,by simp [hcs],bl0⟩,?_⟩
  clear L5 o5 r5
  rintro i loc J6 ⟨tr',sg',cd',G',A,bl,rfl,hi',L6,o6,r6,e6,hb⟩
  rw [bV (.cell r6)]
  cases hx:(rs.map CS)[i]? with
  | none =>
   show u8 _ _ _ _ _ _
   obtain rfl:i = rs.length:=by
    have:=List.getElem?_eq_none_iff.mp hx
    rw [List.length_map] at this
    lia
   rw [List.drop_length] at e6
   have e7:cs = A++bl:=by rw [e6]; simp [cv]
   clear hx e6 r6
   unfold b9
   tm_at "ww"
   refine r9 (cJ ?_)
   tm_at "ww"
   obtain ⟨r1,r2,r3⟩:=Be (k:=2) (by tm_at "o")
   refine ⟨0,2,1,rfl,r1,r2,LuI ns tr' sg' cd' cs G' (600 - rs.length) o,2,⟨tn,A,bl,rfl,L6,o6,e7,hb⟩,?_⟩
   rw [show (Builtin.Range.rangeSize 0 2 1).toNat = 2 from r3]
   clear r1 r2 r3 L6 o6 e7 hb
   rintro i loc J7 ⟨tn',A',bl',rfl,L7,o7,e7,hb7⟩
   by_cases c2:i < 2
   ·rw [show aG 0 1 2 i J7 = some (some (.int (0 + i * 1))) by unfold aG; rw [if_pos c2]]
    refine ⟨c2,b9 (some (.arg (ns.map .int))) (some (.int (0 + i * 1))) tr' (some (txA cs .none)) (some (.lst (ai cs))) (some (poA 3)) sg' cd',.name (by tm_at "mem") (by unfold b9; tm_at "up"),?_⟩
    refine Ap (by tm_at "o") L7 rfl o7 hj (by tm_at "o") hle hb7 e7 fun J8 L8 o8=>?_
    exact ⟨_,cs,[],rfl,L8,o8,by simp,bl0⟩
   ·rw [show aG 0 1 2 i J7 = some none by unfold aG; rw [if_neg c2]]
    have ei:ai cs = (cs.map fun c:Nat=>(c:Int)).map AV.int:=by rw [List.map_map]; rfl
    unfold b9
    tm_at "ww"
    refine gR .lst (by simp; lia) ?_
    tm_at "ww"
    refine yx (ks:=cs.map fun c:Nat=>(c:Int)) (.inl (by rw [ei])) (.inl (by rw [ei])) ?_
    tm_at "ww"
    exact h _
  | some q =>
   have hlt:i < rs.length:=by have:=(List.getElem?_eq_some_iff.mp hx).1; simpa using this
   obtain ⟨⟨t,sg⟩,er⟩:∃ r,rs[i]? = some r:=⟨_,List.getElem?_eq_getElem hlt⟩
   rw [List.getElem?_map,er] at hx
   cases hx
   have hok:=ok _ (List.mem_of_getElem? er)
   have ed:rs.drop i = (t,sg) :: rs.drop (i + 1):=by
    obtain ⟨h1,h2⟩:=List.getElem?_eq_some_iff.mp er
    rw [List.drop_eq_getElem_cons h1,h2]
   rw [ed] at e6
   refine ⟨hlt,b9 (some (.arg (ns.map .int))) tn (some (trA t)) (some (txA cs .none)) (some (.lst (ai cs))) (some (poA 3)) (some (.lst (ai sg))) cd',.tup (xs:=["tree","signs"]) rfl (by decide +kernel) (by unfold b9; tm_at "ups"),?_⟩
   refine DZ (r:=600 - (i + 1)) (R:=cv (rs.drop (i + 1))) (by tm_at "o") (by rw [show 600 - (i + 1) + 1 = 600 - i by omega]; exact L6) rfl o6 hj (by tm_at "o") hle hok.1 hok.2 hb e6 fun u cd G7 J7 hu L7 o7 x7=>?_
   refine ⟨_,_,_,G7,A++(bl++(tx t++sg.take u)),sg.drop u,rfl,hlt,L7,?_,x7.get (by simp; lia) r6,?_,fun c hc=>hok.2.bl c (List.mem_of_mem_drop hc)⟩
   ·rw [o7]
    have:(A++(bl++(tx t++sg.take u))).length = A.length + (bl.length + (tx t).length) + u:=by
     simp only [List.length_append,List.length_take]; lia
    rw [this]
   ·rw [e6]
    simp only [cv,List.append_assoc]
    rw [← List.append_assoc (sg.take u),List.take_append_drop]
end
section
set_option bootstrap.genMatcherCode false
theorem nq {R:WRecords} {cl:Str→Option Addr} {h:Heap} {P:Params} {F:FF}:∀ {ns:List Int} {vs:List Value} {as:List Addr},ReadsAllW R cl h vs (ns.map .int) as→af P F vs (ns.map .int)
 | [],_,_,r=>by cases r; exact .nil
 | n :: ns,_,_,r=>by
  cases r with
  | cons r1 r2 =>
   cases r1
   exact .cons ax (nq r2)
theorem EZ {ns:List Int} (h:(OpenLaw.pre rw1).holds [] { args:=[.list (ns.map .int)] } = true):ns.length≤63:=by
 apply Decidable.byContradiction
 intro hn
 have e:less? (.int 63) (.int ((ns.map WData.int).length:Nat)) = some true:=by
  show Num.less? (.int 63) (.int _) = _
  unfold Num.less?
  simp
  lia
 have e2:WTm.value [] (OpenLaw.pre rw1) { args:=[.list (ns.map .int)] } = some (.bool false):=by
  have e3:WTm.value [] ((WTm.lit (.int 63)).lt (WTm.arg 0).len) { args:=[.list (ns.map .int)] } = some (.bool true):=by
   show (less? (.int 63) (.int ((ns.map WData.int).length:Nat))).map WData.bool = _
   rw [e]; rfl
  have e4:WTm.value [] ((WTm.lit (.int 63)).lt (WTm.arg 0).len).not { args:=[.list (ns.map .int)] } = some (.bool false):=by
   show (match WTm.value [] ((WTm.lit (.int 63)).lt (WTm.arg 0).len) { args:=[.list (ns.map .int)] } with | some (.bool b)=>some (WData.bool (!b)) | _=>none) = _
   rw [e3]; rfl
  show (match WTm.value [] ((WTm.lit (.int 63)).lt (WTm.arg 0).len).not { args:=[.list (ns.map .int)] } with
   | some (.bool false)=>some (WData.bool false)
   | some (.bool true)=>(match WTm.value [] (WTm.lit (.bool true)) { args:=[.list (ns.map .int)] } with
    | some (.bool x)=>some (WData.bool x)
    | _=>none)
   | _=>none) = _
  rw [e4]
 unfold WTm.holds at h
 rw [e2] at h
 cases h
theorem OY {W:WW} {x:Str} {a:Nat} {h:Heap} (g:GA (BB W) x (.val (.ref a))) (G:Good (BB W) h):W.mg x = some (.ref a) ∨ W.mg x = none:=by
 obtain ⟨v,⟨_,hv⟩,hr⟩:=g
 have e:v = .ref a:=by
  have:=hr ⟨fun a=>(BB W).K.lookup a,[]⟩ fun b o q=>q
  simpa only [AVR] using this
 subst e
 rcases hv with e | ⟨e1,e2,e3⟩
 ·exact .inl (mg_of G.X G.T.g e)
 ·exact .inr (mg_none_of G.X G.T.g e1)
theorem Nn:WalkO q loose (fun zz zz=>True) BC rw1.row.toRowW uO [] (fun f vs=>PySem.call f vs):=by
 intro w s₀ s₁ mg mb G Y a o pm cd doc dV kV ha ho hcd hdf hmg hgens args vals as hpre hlay hread hwell hlow
 obtain ⟨hall,hpre⟩:=pre_splitW hpre
 obtain ⟨d,r,rfl,hd,hr⟩:=hasAllW_cons hall
 obtain rfl:=hasAllW_nil hr
 obtain ⟨xs,rfl,hx⟩:=hasW_list hd
 obtain ⟨ns,rfl⟩:=items_int hx
 have hz:ns.length≤63:=EZ hpre
 obtain ⟨v,rfl,k⟩:∃ v,vals = [v]∧∃ b as',v = .ref b∧∃ o vs n,s₁.heap.get? b = some o∧o.cls = .type "list"∧o.data = .seq vs n∧ReadsAllW rw1.row.toRowW.records (classAt s₀.heap) s₁.heap vs.toList (ns.map .int) as':=by
  cases hread with
  | cons r1 r2 =>
   cases r2
   cases r1 with
   | list h1 h2 h3 h4=>exact ⟨_,rfl,_,_,rfl,_,_,_,h1,h2,h3,h4⟩
 obtain ⟨b,as',rfl,o',vs,n,h1,h2,h3,h4⟩:=k
 let W:WW:=⟨w,mg,mb,s₁.os,s₁.drawn⟩
 have gd:Good (BB W) s₁.heap:=⟨Ja w _ Y,topRead_of G.T,⟨_,Ja w _ Y 2052 _ (show (KK w.params).lookup 2052 = some Bp by kernel_rfl)⟩,(by decide:0 < 2053)⟩
 have ea:a = 2052:=by
  have e:W.mg "law" = some (.ref a):=hmg
  rcases OY (Pn (W:=W)) gd with q | q
  ·rw [e] at q; cases q; rfl
  ·rw [e] at q; cases q
 subst ea
 have R:RelG (BB W) s₁.heap ⟨s₁.heap.get?,[]⟩ [] s₁:=⟨fun zz zz e=>e,(fun a ha=>by cases ha),fun a o e=>gd.X a o e,rfl,(fun i p c e=>by cases e),List.nodup_nil,(fun k hk=>by cases hk),fun zz zz e=>e,gd,hgens,rfl,rfl⟩
 have room:dQ 30 callerA:=by
  refine ⟨rfl,by decide,by decide⟩
 have hv:af w.params ⟨s₁.heap.get?,[]⟩ [.ref b] [.arg (ns.map .int)]:=by
  refine .cons ?_ .nil
  simp only [AVR]
  exact ⟨b,o',n,vs.toList,rfl,h1,h2,h3,nq h4⟩
 have L:=A2 (W:=W) (n:=30) (ns:=ns) (Q:=fun a zz=>a = .bool true) (by lia) hz (fun zz=>rfl) callerA s₁.heap _ s₁ _ room R hv
 refine wpAny_mono L ?_ fun zz zz x=>x.elim
 rintro v s' ⟨F',c,H',g,R',hv',rfl⟩
 have ev:v = .bool true:=by simpa only [VR,AVR] using hv'
 subst ev
 refine GoodW.toG ⟨.inl ⟨_,.bool true,[],rfl,fun zz=>rfl,.bool true,?_,fun zz=>⟨List.nodup_nil,fun a ha=>by cases ha⟩⟩,R'.kp,R'.eo,R'.eg⟩
 kernel_rfl
theorem done:PySem.Challenge.rw_pq1045_01.Holds:=hd Nn
end
end Mine
end
theorem PySem.Challenge.cw_pq1045_01_holds : PySem.Challenge.rw_pq1045_01.Holds := by
  exact Mine.done
