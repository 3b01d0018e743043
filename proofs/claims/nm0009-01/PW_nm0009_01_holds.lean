import PyProof.Rows.All
import Wide.All
import OpenK.AllK
import Wide.FinOn
import KE.LcSums
import KE.KDictLaws
import KE.KRevSl
import KE.KIntText
import KE.KUnpack
import KE.KItem
import OpenK.KMore
import PyProof.InstStoreFacts
import PyProof.ExcInit
import PyProof.ExcBaseAll.Exception
import OpenK.KRaise
import PyProof.StationsW
import PySem.Challenge.RW_nm0009_01
set_option Elab.async false
set_option maxRecDepth 100000
set_option maxHeartbeats 0
set_option linter.all false
open PySem PySem.W PyProof.Rows PySem.Calls
noncomputable section
section
namespace Mine
inductive AV where
 | none | bool (b:Bool) | sb (b:Bool) | num (i:Int) | sym (i:Int) | str (s:Str)
 | ints (l:List Int) | tup (l:List AV) | lst (l:List AV)
 | dS (ks:List Str) (l:List AV) | dI (ks:List Int) (l:List AV)
 | rng (a b c:Int) | ite (b:Bool) (x y:AV) | loc (n:Nat)
abbrev lstO (vs:List Value) (n:Nat):Obj:={ cls:=.type "list",data:=.seq vs.toArray n }
abbrev tupO (vs:List Value) (n:Nat):Obj:={ cls:=.type "tuple",data:=.seq vs.toArray n }
abbrev rngO (a b c:Int) (t u v:Tok):Obj:={ cls:=.type "range",data:=.fields #[.int a t,.int b u,.int c v] }
def IntsA:List Int→List Value→Prop
 | [],vs=>vs=[]
 | i :: l,vs=>∃ t r,vs=.int i t :: r∧IntsA l r
variable (prog:Program) (w:World)
abbrev Vis:=Addr→Obj→Prop
mutual
def Has (V:Vis) (ρ:List Addr):AV→Value→Prop
 | .none,v=>v=.none
 | .bool b,v=>v=.bool b
 | .sb b,v=>v=.bool b
 | .num i,v=>∃ t,v=.int i t
 | .sym i,v=>∃ t,v=.int i t
 | .str x,v=>∃ t,v=.str x t
 | .ints l,v=>∃ a vs n,v=.ref a∧V a (lstO vs n)∧IntsA l vs
 | .tup l,v=>∃ a vs n,v=.ref a∧V a (tupO vs n)∧HasL V ρ l vs
 | .lst l,v=>∃ a vs n,v=.ref a∧V a (lstO vs n)∧HasL V ρ l vs
 | .dS ks l,v=>∃ a o vs,v=.ref a∧V a o∧o.IsDictOf (strKind prog w) (ks.zip vs)∧ks.length=vs.length∧HasL V ρ l vs
 | .dI ks l,v=>∃ a o vs,v=.ref a∧V a o∧o.IsDictOf (intKind prog w) (ks.zip vs)∧ks.length=vs.length∧HasL V ρ l vs
 | .rng a b c,v=>∃ r t u x,v=.ref r∧V r (rngO a b c t u x)
 | .ite b x y,v=>(b=true→Has V ρ x v)∧(b=false→Has V ρ y v)
 | .loc n,v=>∃ a:Addr,ρ[n]?=some a∧v=.ref a
def HasL (V:Vis) (ρ:List Addr):List AV→List Value→Prop
 | [],vs=>vs=[]
 | x :: l,vs=>∃ v r,vs=v :: r∧Has V ρ x v∧HasL V ρ l r
end
mutual
theorem Has.mono {V V':Vis} {ρ ρ':List Addr} (hV:∀ a o,V a o→V' a o) (hρ:∀ (n:Nat) (a:Addr),ρ[n]?=some a→ρ'[n]?=some a) :
  ∀ (t:AV) (v:Value),Has prog w V ρ t v→Has prog w V' ρ' t v
 | .none,_,h=>h
 | .bool _,_,h=>h
 | .sb _,_,h=>h
 | .num _,_,h=>h
 | .sym _,_,h=>h
 | .str _,_,h=>h
 | .ints _,_,⟨a,vs,n,e,hv,h⟩=>⟨a,vs,n,e,hV _ _ hv,h⟩
 | .tup l,_,⟨a,vs,n,e,hv,h⟩=>⟨a,vs,n,e,hV _ _ hv,HasL.mono hV hρ l vs h⟩
 | .lst l,_,⟨a,vs,n,e,hv,h⟩=>⟨a,vs,n,e,hV _ _ hv,HasL.mono hV hρ l vs h⟩
 | .dS _ l,_,⟨a,o,vs,e,hv,hd,hl,h⟩=>⟨a,o,vs,e,hV _ _ hv,hd,hl,HasL.mono hV hρ l vs h⟩
 | .dI _ l,_,⟨a,o,vs,e,hv,hd,hl,h⟩=>⟨a,o,vs,e,hV _ _ hv,hd,hl,HasL.mono hV hρ l vs h⟩
 | .rng _ _ _,_,⟨r,t,u,x,e,hv⟩=>⟨r,t,u,x,e,hV _ _ hv⟩
 | .ite _ x y,v,⟨h1,h2⟩=>⟨fun e=>Has.mono hV hρ x v (h1 e),fun e=>Has.mono hV hρ y v (h2 e)⟩
 | .loc n,_,⟨a,e,hv⟩=>⟨a,hρ n a e,hv⟩
theorem HasL.mono {V V':Vis} {ρ ρ':List Addr} (hV:∀ a o,V a o→V' a o) (hρ:∀ (n:Nat) (a:Addr),ρ[n]?=some a→ρ'[n]?=some a) :
  ∀ (l:List AV) (vs:List Value),HasL prog w V ρ l vs→HasL prog w V' ρ' l vs
 | [],_,h=>h
 | x :: l,_,⟨v,r,e,h1,h2⟩=>⟨v,r,e,Has.mono hV hρ x v h1,HasL.mono hV hρ l r h2⟩
end
variable {prog w}
theorem HasL.length {V:Vis} {ρ:List Addr}:∀ {l:List AV} {vs:List Value},HasL prog w V ρ l vs→vs.length=l.length
 | [],_,h=>by rw [show _=[] from h]; rfl
 | _ :: l,_,⟨v,r,e,_,h⟩=>by rw [e,List.length_cons,List.length_cons,HasL.length h]
theorem IntsA.length:∀ {l:List Int} {vs:List Value},IntsA l vs→vs.length=l.length
 | [],_,h=>by rw [show _=[] from h]; rfl
 | _ :: l,_,⟨v,r,e,h⟩=>by rw [e,List.length_cons,List.length_cons,IntsA.length h]
theorem HasL.get {V:Vis} {ρ:List Addr}:∀ {l:List AV} {vs:List Value} {n:Nat} {x:AV},HasL prog w V ρ l vs→l[n]?=some x→∃ v,vs[n]?=some v∧Has prog w V ρ x v
 | y :: l,_,0,x,⟨v,r,e,h,_⟩,hx=>by
  have:y=x:=by simpa using hx
  subst this; subst e
  exact ⟨v,rfl,h⟩
 | y :: l,_,n+1,x,⟨v,r,e,_,h⟩,hx=>by
  subst e
  obtain ⟨u,h1,h2⟩:=HasL.get (n:=n) h (by simpa using hx)
  exact ⟨u,by simpa using h1,h2⟩
theorem HasL.append {V:Vis} {ρ:List Addr}:∀ {l m:List AV} {vs us:List Value},HasL prog w V ρ l vs→HasL prog w V ρ m us→HasL prog w V ρ (l++m) (vs++us)
 | [],_,_,_,h,k=>by rw [show _=[] from h]; exact k
 | x :: l,m,_,us,⟨v,r,e,h1,h2⟩,k=>by subst e; exact ⟨v,r++us,rfl,h1,h2.append k⟩
theorem IntsA.get:∀ {l:List Int} {vs:List Value} {n:Nat} {x:Int},IntsA l vs→l[n]?=some x→∃ t,vs[n]?=some (.int x t)
 | y :: l,_,0,x,⟨t,r,e,h⟩,hx=>by
  have:y=x:=by simpa using hx
  subst this; subst e
  exact ⟨t,rfl⟩
 | y :: l,_,n+1,x,⟨v,r,e,h⟩,hx=>by
  subst e
  obtain ⟨u,h1⟩:=IntsA.get (n:=n) h (by simpa using hx)
  exact ⟨u,by simpa using h1⟩
theorem IntsA.hasL {V:Vis} {ρ:List Addr}:∀ {l:List Int} {vs:List Value},IntsA l vs→HasL prog w V ρ (l.map AV.sym) vs
 | [],_,h=>h
 | x :: l,_,⟨t,r,e,h⟩=>⟨.int x t,r,e,⟨t,rfl⟩,h.hasL⟩
theorem intsA_of_hasL {V:Vis} {ρ:List Addr}:∀ {l:List Int} {vs:List Value},HasL prog w V ρ (l.map AV.sym) vs→IntsA l vs
 | [],_,h=>h
 | x :: l,_,⟨v,r,e,⟨t,ht⟩,h⟩=>⟨t,r,by rw [e,ht],intsA_of_hasL h⟩
inductive R (α:Type) where
 | ret (a:α) | ite (b:Bool) (x y:R α) | need (p:Prop) (x:R α) | exc | fail
namespace R
def bind {α β:Type}:R α→(α→R β)→R β
 | .ret a,f=>f a
 | .ite b x y,f=>.ite b (x.bind f) (y.bind f)
 | .need p x,f=>.need p (x.bind f)
 | .exc,_=>.exc
 | .fail,_=>.fail
def Holds {α:Type}:R α→(α→Prop)→Prop→Prop
 | .ret a,P,_=>P a
 | .ite b x y,P,X=>(b=true→x.Holds P X)∧(b=false→y.Holds P X)
 | .need p x,P,X=>p∧x.Holds P X
 | .exc,_,X=>X
 | .fail,_,_=>False
theorem holds_bind {α β:Type} {P:β→Prop} {X:Prop} {f:α→R β}:∀ {x:R α},(x.bind f).Holds P X→x.Holds (fun a=>(f a).Holds P X) X
 | .ret _,h=>h
 | .ite _ _ _,⟨h1,h2⟩=>⟨fun e=>holds_bind (h1 e),fun e=>holds_bind (h2 e)⟩
 | .need _ _,⟨h1,h2⟩=>⟨h1,holds_bind h2⟩
 | .exc,h=>h
 | .fail,h=>h
theorem holds_bind' {α β:Type} {P:β→Prop} {X:Prop} {f:α→R β}:∀ {x:R α},x.Holds (fun a=>(f a).Holds P X) X→(x.bind f).Holds P X
 | .ret _,h=>h
 | .ite _ _ _,⟨h1,h2⟩=>⟨fun e=>holds_bind' (h1 e),fun e=>holds_bind' (h2 e)⟩
 | .need _ _,⟨h1,h2⟩=>⟨h1,holds_bind' h2⟩
 | .exc,h=>h
 | .fail,h=>h
theorem holds_mono {α:Type} {P P':α→Prop} {X X':Prop} (hP:∀ a,P a→P' a) (hX:X→X'):∀ {x:R α},x.Holds P X→x.Holds P' X'
 | .ret _,h=>hP _ h
 | .ite _ _ _,⟨h1,h2⟩=>⟨fun e=>holds_mono hP hX (h1 e),fun e=>holds_mono hP hX (h2 e)⟩
 | .need _ _,⟨h1,h2⟩=>⟨h1,holds_mono hP hX h2⟩
 | .exc,h=>hX h
 | .fail,h=>h
theorem holds_cases {α:Type} {P:α→Prop} {X:Prop} {G:Prop} (h1:∀ a,P a→G) (h2:X→G):∀ {x:R α},x.Holds P X→G
 | .ret _,h=>h1 _ h
 | .ite b _ _,⟨k1,k2⟩=>by cases b; exact holds_cases h1 h2 (k2 rfl); exact holds_cases h1 h2 (k1 rfl)
 | .need _ _,⟨_,h⟩=>holds_cases h1 h2 h
 | .exc,h=>h2 h
 | .fail,h=>h.elim
end R
inductive Slot where
 | own (c:AV) | frz (t:AV)
structure Frm where
 env:Env
 X:Addr→Prop
 base:Heap
 fr:Addr→Prop
 frX:∀ a,fr a→X a
def Kept (fr:Addr→Prop) (h:Heap) (a:Addr) (o:Obj):Prop:=∃ t,h.get? a=some { o with slots:=t }∧(fr a∨t=o.slots)
theorem Kept.of {fr:Addr→Prop} {h:Heap} {a:Addr} {o:Obj} (e:h.get? a=some o):Kept fr h a o:=⟨o.slots,e,.inr rfl⟩
theorem Kept.exact {fr:Addr→Prop} {h:Heap} {a:Addr} {o:Obj} (k:Kept fr h a o) (n:¬ fr a):h.get? a=some o:=by
 obtain ⟨t,e,q⟩:=k
 rcases q with q | q
 ·exact (n q).elim
 ·subst q; exact e
theorem Kept.some {fr:Addr→Prop} {h:Heap} {a:Addr} {o:Obj} (k:Kept fr h a o):∃ o',h.get? a=some o'∧o'.data=o.data:=let ⟨_,e,_⟩:=k; ⟨_,e,rfl⟩
theorem Kept.trans {fr:Addr→Prop} {h h':Heap} {a:Addr} {o:Obj} (k:Kept fr h a o) (k':∀ o,h.get? a=Option.some o→Kept fr h' a o):Kept fr h' a o:=by
 obtain ⟨t,e,q⟩:=k
 obtain ⟨t',e',q'⟩:=k' _ e
 exact ⟨t',e',q.elim .inl fun q=>q'.elim .inl fun q'=>.inr (q'.trans q)⟩
theorem Kept.sub {fr fr':Addr→Prop} {h:Heap} {a:Addr} {o:Obj} (k:Kept fr h a o) (hs:fr a→fr' a):Kept fr' h a o:=let ⟨t,e,q⟩:=k; ⟨t,e,q.imp hs id⟩
theorem ns_kept {fr:Addr→Prop} {h h':Heap} {a:Addr} {m:Str→Option Value} (n:h.Ns a m) (k:∀ o,h.get? a=some o→Kept fr h' a o):h'.Ns a m:=by
 obtain ⟨o,es,ep,e,d,r⟩:=n
 obtain ⟨o',e',d'⟩:=(k o e).some
 exact ⟨o',es,ep,e',d'.trans d,r⟩
abbrev AEnv:=List (Str×AV)
def OwnA (sl:List Slot) (ρ:List Addr) (a:Addr):Prop:=∃ (n:Nat) (c:AV),sl[n]?=some (Slot.own c)∧ρ[n]?=some a
def Mut (F:Frm) (sl:List Slot) (ρ:List Addr) (a:Addr):Prop:=a=F.env.locals∨(∃ x,(x,a)∈F.env.cells)∨OwnA sl ρ a
def Bad (F:Frm) (sl:List Slot) (ρ:List Addr) (a:Addr):Prop:=F.X a∨Mut F sl ρ a
def Vw (F:Frm) (sl:List Slot) (ρ:List Addr) (h:Heap):Vis:=fun a o=>h.get? a=some o∧¬ Bad F sl ρ a∧(a==sysModules)=false
variable (prog w)
def OwnAt (V:Vis) (ρ:List Addr) (h:Heap) (a:Addr):AV→Prop
 | .lst l=>∃ vs n,h.get? a=some (lstO vs n)∧HasL prog w V ρ l vs
 | .dS ks l=>∃ o vs,h.get? a=some o∧o.IsDictOf (strKind prog w) (ks.zip vs)∧ks.length=vs.length∧HasL prog w V ρ l vs
 | .dI ks l=>∃ o vs,h.get? a=some o∧o.IsDictOf (intKind prog w) (ks.zip vs)∧ks.length=vs.length∧HasL prog w V ρ l vs
 | _=>False
def SlotAt (V:Vis) (ρ:List Addr) (h:Heap) (a:Addr):Slot→Prop
 | .own c=>OwnAt prog w V ρ h a c
 | .frz t=>Has prog w V ρ t (.ref a)
structure Inv (F:Frm) (env:AEnv) (sl:List Slot) (ρ:List Addr) (s:Shared):Prop where
 base:∀ a o,F.base.get? a=some o→s.heap.get? a=some o
 sm:∃ o,F.base.get? sysModules=some o
 low:∀ a,Bad F sl ρ a→F.base.get? a=none∧∃ o,s.heap.get? a=some o
 ns:∃ m,s.heap.Ns F.env.locals m∧∀ x av,env.lookup x=some av→F.env.kindOf x=some .local→∃ v,m x=some v∧Has prog w (Vw F sl ρ s.heap) ρ av v
 cell:∀ x av,env.lookup x=some av→F.env.kindOf x=some .cell∨F.env.kindOf x=some .free→∃ c v,F.env.cells.lookup x=some c∧s.heap.IsCell c (some v)∧Has prog w (Vw F sl ρ s.heap) ρ av v
 kind:∀ x av,env.lookup x=some av→F.env.kindOf x=some .local∨F.env.kindOf x=some .cell∨F.env.kindOf x=some .free
 cells:∀ x c,(x,c)∈F.env.cells→(∃ ov,s.heap.IsCell c ov)∧c≠F.env.locals
 len:ρ.length=sl.length
 slots:∀ (n:Nat) (a:Addr) (σ:Slot),ρ[n]?=some a→sl[n]?=some σ→SlotAt prog w (Vw F sl ρ s.heap) ρ s.heap a σ
 apart:∀ (n m:Nat) (a:Addr) (c c':AV),sl[n]?=some (Slot.own c)→sl[m]?=some (Slot.own c')→ρ[n]?=some a→ρ[m]?=some a→n=m
 ownNe:∀ a,OwnA sl ρ a→a≠F.env.locals∧(∀ x,(x,a) ∉ F.env.cells)∧¬ F.X a
 locX:¬ F.X F.env.locals∧∀ x c,(x,c)∈F.env.cells→¬ F.X c
 frs:∀ a,F.fr a→∃ o,s.heap.get? a=some o∧∀ vs,o.data≠.fields vs
structure Evo (F:Frm) (sl:List Slot) (ρ:List Addr) (s:Shared) (sl':List Slot) (ρ':List Addr) (s':Shared):Prop where
 keep:∀ a o,s.heap.get? a=some o→¬ Mut F sl ρ a→Kept F.fr s'.heap a o
 gens:s'.gens=s.gens
 drawn:s'.drawn=s.drawn
 os:s'.os=s.os
 ext:∀ (n:Nat) (a:Addr),ρ[n]?=some a→ρ'[n]?=some a
 mu:∀ a,Mut F sl' ρ' a→Mut F sl ρ a∨s.heap.get? a=none
 live:∀ a o,s.heap.get? a=some o→∃ o',s'.heap.get? a=some o'
variable {prog w}
theorem Evo.refl (F:Frm) (sl:List Slot) (ρ:List Addr) (s:Shared):Evo F sl ρ s sl ρ s:=
 ⟨fun _ _ e _=>.of e,rfl,rfl,rfl,fun _ _ e=>e,fun _ h=>.inl h,fun _ o e=>⟨o,e⟩⟩
theorem Evo.trans {F:Frm} {sl₁ sl₂ sl₃:List Slot} {ρ₁ ρ₂ ρ₃:List Addr} {s₁ s₂ s₃:Shared} (x:Evo F sl₁ ρ₁ s₁ sl₂ ρ₂ s₂) (y:Evo F sl₂ ρ₂ s₂ sl₃ ρ₃ s₃):Evo F sl₁ ρ₁ s₁ sl₃ ρ₃ s₃:=
 ⟨fun a o e hm=>(x.keep a o e hm).trans fun o' e'=>y.keep a o' e' fun q=>(x.mu a q).elim hm fun z=>(nomatch z.symm.trans e),
  y.gens.trans x.gens,y.drawn.trans x.drawn,y.os.trans x.os,fun n a e=>y.ext n a (x.ext n a e),
  fun a h=>(y.mu a h).elim (x.mu a) fun z=>(by
   by_cases hm:Mut F sl₁ ρ₁ a
   ·exact .inl hm
   ·cases e:s₁.heap.get? a with
    | none=>exact .inr rfl
    | some o=>
     obtain ⟨o',e',_⟩:=(x.keep a o e hm).some
     rw [e'] at z; cases z),
  fun a o e=>let ⟨o',e'⟩:=x.live a o e; y.live a o' e'⟩
theorem Evo.vis {F:Frm} {sl sl':List Slot} {ρ ρ':List Addr} {s s':Shared} (x:Evo F sl ρ s sl' ρ' s') (a:Addr) (o:Obj) (h:Vw F sl ρ s.heap a o):Vw F sl' ρ' s'.heap a o:=
 ⟨(x.keep a o h.1 fun q=>h.2.1 (.inr q)).exact fun q=>h.2.1 (.inl (F.frX a q)),fun q=>q.elim (fun z=>h.2.1 (.inl z)) fun z=>(x.mu a z).elim (fun y=>h.2.1 (.inr y)) fun y=>(nomatch y.symm.trans h.1),h.2.2⟩
theorem Evo.has {F:Frm} {sl sl':List Slot} {ρ ρ':List Addr} {s s':Shared} (x:Evo F sl ρ s sl' ρ' s') {t:AV} {v:Value} (h:Has prog w (Vw F sl ρ s.heap) ρ t v):Has prog w (Vw F sl' ρ' s'.heap) ρ' t v:=
 Has.mono prog w x.vis x.ext t v h
theorem Evo.hasL {F:Frm} {sl sl':List Slot} {ρ ρ':List Addr} {s s':Shared} (x:Evo F sl ρ s sl' ρ' s') {t:List AV} {v:List Value} (h:HasL prog w (Vw F sl ρ s.heap) ρ t v):HasL prog w (Vw F sl' ρ' s'.heap) ρ' t v:=
 HasL.mono prog w x.vis x.ext t v h
structure Calm (F:Frm) (sl:List Slot) (ρ:List Addr) (s s':Shared):Prop where
 keep:∀ a o,s.heap.get? a=some o→s'.heap.get? a=some o
 gens:s'.gens=s.gens
 drawn:s'.drawn=s.drawn
 os:s'.os=s.os
theorem Calm.evo {F:Frm} {sl:List Slot} {ρ:List Addr} {s s':Shared} (x:Calm F sl ρ s s'):Evo F sl ρ s sl ρ s':=
 ⟨fun a o e _=>.of (x.keep a o e),x.gens,x.drawn,x.os,fun _ _ e=>e,fun _ h=>.inl h,fun a o e=>⟨o,x.keep a o e⟩⟩
theorem SlotAt.calm {V V':Vis} {ρ ρ':List Addr} {h h':Heap} {a:Addr} (hV:∀ a o,V a o→V' a o) (hρ:∀ (n:Nat) (a:Addr),ρ[n]?=some a→ρ'[n]?=some a) (hk:∀ o,h.get? a=some o→h'.get? a=some o) :
  ∀ {σ:Slot},SlotAt prog w V ρ h a σ→SlotAt prog w V' ρ' h' a σ
 | .frz t,x=>Has.mono prog w hV hρ t _ x
 | .own (.lst l),⟨vs,n,e,x⟩=>⟨vs,n,hk _ e,HasL.mono prog w hV hρ l vs x⟩
 | .own (.dS ks l),⟨o,vs,e,d,q,x⟩=>⟨o,vs,hk _ e,d,q,HasL.mono prog w hV hρ l vs x⟩
 | .own (.dI ks l),⟨o,vs,e,d,q,x⟩=>⟨o,vs,hk _ e,d,q,HasL.mono prog w hV hρ l vs x⟩
theorem Inv.calm {F:Frm} {env:AEnv} {sl:List Slot} {ρ:List Addr} {s s':Shared} (I:Inv prog w F env sl ρ s) (x:Calm F sl ρ s s'):Inv prog w F env sl ρ s':=by
 have hv:=x.evo.vis
 refine ⟨fun a o e=>x.keep a o (I.base a o e),I.sm,fun a h=>⟨(I.low a h).1,let ⟨o,e⟩:=(I.low a h).2; ⟨o,x.keep a o e⟩⟩,?_,?_,I.kind,?_,I.len,?_,I.apart,I.ownNe,I.locX,fun a h=>let ⟨o,e,d⟩:=I.frs a h; ⟨o,x.keep a o e,d⟩⟩
 ·obtain ⟨m,hn,hm⟩:=I.ns
  exact ⟨m,hn.keeps x.keep,fun y av e k=>let ⟨v,e1,e2⟩:=hm y av e k; ⟨v,e1,Has.mono prog w hv (fun _ _ e=>e) av v e2⟩⟩
 ·intro y av e k
  obtain ⟨c,v,e1,e2,e3⟩:=I.cell y av e k
  exact ⟨c,v,e1,e2.keeps x.keep,Has.mono prog w hv (fun _ _ e=>e) av v e3⟩
 ·intro y c e
  obtain ⟨⟨ov,h1⟩,h2⟩:=I.cells y c e
  exact ⟨⟨ov,h1.keeps x.keep⟩,h2⟩
 ·intro n a σ e1 e2
  exact (I.slots n a σ e1 e2).calm hv (fun _ _ e=>e) (x.keep a)
theorem Calm.tok {F:Frm} {sl:List Slot} {ρ:List Addr} {s:Shared} (t:Nat):Calm F sl ρ s { s with toks:=t }:=⟨fun _ _ e=>e,rfl,rfl,rfl⟩
theorem Calm.push {F:Frm} {sl:List Slot} {ρ:List Addr} {s:Shared} (o:Obj) (t:Nat):Calm F sl ρ s { s with heap:=s.heap.push o,toks:=t }:=
 ⟨fun _ _ e=>Heap.get?_push_of_some _ e,rfl,rfl,rfl⟩
theorem Calm.trans {F:Frm} {sl:List Slot} {ρ:List Addr} {s₁ s₂ s₃:Shared} (x:Calm F sl ρ s₁ s₂) (y:Calm F sl ρ s₂ s₃):Calm F sl ρ s₁ s₃:=
 ⟨fun a o e=>y.keep a o (x.keep a o e),y.gens.trans x.gens,y.drawn.trans x.drawn,y.os.trans x.os⟩
theorem Inv.notSm {F:Frm} {env:AEnv} {sl:List Slot} {ρ:List Addr} {s:Shared} (I:Inv prog w F env sl ρ s) {a:Addr} (h:F.base.get? a=none):(a==sysModules)=false:=by
 obtain ⟨o,e⟩:=I.sm
 exact beq_eq_false_iff_ne.mpr fun q=>by subst q; rw [e] at h; exact nomatch h
theorem get_size (h:Heap):h.get? h.objs.size=none:=by
 cases e:h.get? h.objs.size with
 | none=>rfl
 | some o=>exact absurd (Heap.lt_size e) (Nat.lt_irrefl _)
theorem Inv.nfr {F:Frm} {env:AEnv} {sl:List Slot} {ρ:List Addr} {s:Shared} (I:Inv prog w F env sl ρ s) {a:Addr} (h:s.heap.get? a=none):¬ F.fr a:=fun q=>by
 obtain ⟨o,e,_⟩:=I.frs a q
 rw [h] at e; exact nomatch e
theorem vis_new {F:Frm} {env:AEnv} {sl:List Slot} {ρ:List Addr} {s:Shared} (I:Inv prog w F env sl ρ s) {s':Shared} {o:Obj} {a:Addr} (ha:s.heap.get? a=none) (e:s'.heap.get? a=some o):Vw F sl ρ s'.heap a o:=by
 have h1:¬ Bad F sl ρ a:=fun q=>by
  obtain ⟨_,o',e'⟩:=I.low a q
  rw [ha] at e'; exact nomatch e'
 have h2:F.base.get? a=none:=by
  cases e':F.base.get? a with
  | none=>rfl
  | some o'=>rw [I.base a o' e'] at ha; exact nomatch ha
 exact ⟨e,h1,I.notSm h2⟩
end Mine
end
section
namespace Mine
abbrev SL:=List Slot
def intOf:AV→Option (Int×Bool)
 | .num i=>some (i,false)
 | .sym i=>some (i,true)
 | _=>none
def mkI (i:Int) (s:Bool):AV:=match s with | true=>.sym i | false=>.num i
def mkB (b:Bool) (s:Bool):AV:=match s with | true=>.sb b | false=>.bool b
def boolOf:AV→Option (Bool×Bool)
 | .bool b=>some (b,false)
 | .sb b=>some (b,true)
 | _=>none
def res (sl:SL):AV→AV
 | .loc n=>match sl[n]? with
  | some (.frz t)=>t
  | _=>.loc n
 | v=>v
def itemsL (sl:SL):AV→Option (List AV)
 | .lst l=>some l
 | .ints l=>some (l.map .sym)
 | .loc n=>match sl[n]? with
  | some (.own (.lst l))=>some l
  | some (.frz (.lst l))=>some l
  | _=>none
 | _=>none
mutual
def pureA:AV→Bool
 | .tup l=>pureL l
 | .lst l=>pureL l
 | .dS _ l=>pureL l
 | .dI _ l=>pureL l
 | .ite _ x y=>pureA x&&pureA y
 | .loc _=>false
 | _=>true
def pureL:List AV→Bool
 | []=>true
 | x :: l=>pureA x&&pureL l
end
def ownAt? (sl:SL) (n:Nat):Bool:=match sl[n]? with
 | some (.own _)=>true
 | _=>false
mutual
def frz:Nat→SL→AV→Option (SL×AV)
 | 0,_,_=>none
 | k+1,sl,.loc n=>match sl[n]? with
  | some (.frz t)=>some (sl,t)
  | some (.own (.lst l))=>match frzL k sl l with
   | some (sl',l')=>match ownAt? sl' n with
    | true=>some (sl'.set n (.frz (.lst l')),.lst l')
    | false=>none
   | none=>none
  | some (.own (.dS ks l))=>match frzL k sl l with
   | some (sl',l')=>match ownAt? sl' n with
    | true=>some (sl'.set n (.frz (.dS ks l')),.dS ks l')
    | false=>none
   | none=>none
  | some (.own (.dI ks l))=>match frzL k sl l with
   | some (sl',l')=>match ownAt? sl' n with
    | true=>some (sl'.set n (.frz (.dI ks l')),.dI ks l')
    | false=>none
   | none=>none
  | _=>none
 | k+1,sl,.tup l=>match pureL l with
  | true=>some (sl,.tup l)
  | false=>match frzL k sl l with
   | some (sl',l')=>some (sl',.tup l')
   | none=>none
 | _+1,sl,v=>match pureA v with
  | true=>some (sl,v)
  | false=>none
def frzL:Nat→SL→List AV→Option (SL×List AV)
 | 0,_,_=>none
 | _+1,sl,[]=>some (sl,[])
 | k+1,sl,x :: l=>match frz k sl x with
  | some (sl₁,x')=>match frzL k sl₁ l with
   | some (sl₂,l')=>some (sl₂,x' :: l')
   | none=>none
  | none=>none
end
def und:AV→AV
 | .ite b x y=>match b with | true=>und x | false=>und y
 | v=>v
def eqF:AV→AV→Option Bool
 | .none,y=>match y with | .none=>some true | _=>none
 | .bool a,y=>match y with | .bool b=>some (a==b) | .sb b=>some (a==b) | _=>none
 | .sb a,y=>match y with | .bool b=>some (a==b) | .sb b=>some (a==b) | _=>none
 | .num i,y=>match y with | .num j=>some (i==j) | .sym j=>some (i==j) | _=>none
 | .sym i,y=>match y with | .num j=>some (i==j) | .sym j=>some (i==j) | _=>none
 | .str x,y=>match y with | .str z=>some (x==z) | _=>none
 | _,_=>none
def eqFL:List AV→List AV→Option Bool
 | [],m=>match m with | []=>some true | _ :: _=>none
 | x :: l,m=>match m with
  | y :: r=>match eqF (und x) (und y),eqFL l r with
   | some b,some c=>some (b&&c)
   | _,_=>none
  | []=>none
def eqG (x y:AV):Option Bool:=match x,y with
 | .dS ks l,.dS js m=>(match decide (ks=js∧ks.Nodup) with | true=>eqFL l m | false=>none)
 | _,_=>eqF x y
def eqGL:List AV→List AV→Option Bool
 | [],m=>match m with | []=>some true | _ :: _=>none
 | x :: l,m=>match m with
  | y :: r=>match eqG (und x) (und y),eqGL l r with
   | some b,some c=>some (b&&c)
   | _,_=>none
  | []=>none
def eqE (x y:AV):Option Bool:=match x,y with
 | .lst l,.lst m=>eqFL l m
 | _,_=>eqF x y
def eqN (x y:AV):Option Bool:=match x,y with
 | .lst l,.lst m=>eqFL l m
 | .tup l,.tup m=>eqGL l m
 | .none,.tup _=>some false
 | .tup _,.none=>some false
 | _,_=>eqF x y
def ask (s:Bool) (p:Prop) [Decidable p] (x:R AV):R AV:=match s with
 | true=>.need p x
 | false=>match decide p with
  | true=>x
  | false=>.fail
def guardB {α:Type} (b:Bool) (x:R α):R α:=match b with
 | true=>x
 | false=>.fail
def binA (op:Operator) (a b:AV):R AV:=
 match op,a,b with
 | .Add,.str x,.str y=>.need (x.length+y.length≤16777216) (.ret (.str (x++y)))
 | .Add,.lst l,.lst m=>guardB (Nat.blt (l.length+m.length) 16777216) (.ret (.lst (l++m)))
 | _,_,_=>match intOf a,intOf b with
  | some (i,s),some (j,t)=>match op with
   | .Add=>.ret (mkI (i+j) (s||t))
   | .Sub=>.ret (mkI (i - j) (s||t))
   | .Mult=>ask s (i.natAbs<2 ^ 64) (ask t (j.natAbs<2 ^ 64) (.ret (mkI (i*j) (s||t))))
   | .FloorDiv=>ask t (j≠0∧j.natAbs<2 ^ 128) (.ret (mkI (i.fdiv j) (s||t)))
   | .Mod=>ask t (j≠0) (.ret (mkI (i.fmod j) (s||t)))
   | .LShift=>ask t (0≤j∧j≤1000000) (ask s (i.natAbs<2 ^ 64) (.ret (mkI (i*2 ^ j.toNat) (s||t))))
   | .RShift=>ask t (0≤j) (.ret (mkI (i.fdiv (2 ^ j.toNat)) (s||t)))
   | .BitAnd=>.ret (mkI (Builtin.bitAnd i j) (s||t))
   | .BitOr=>.ret (mkI (Builtin.bitOr i j) (s||t))
   | .BitXor=>.ret (mkI (Builtin.bitXor i j) (s||t))
   | _=>.fail
  | _,_=>.fail
def unA (op:UnaryOp) (a:AV):R AV:=
 match op with
 | .Not=>match boolOf a with
  | some (b,s)=>.ret (mkB (!b) s)
  | none=>.fail
 | .USub=>match intOf a with
  | some (i,s)=>.ret (mkI (-i) s)
  | none=>.fail
 | .Invert=>match intOf a with
  | some (i,s)=>.ret (mkI (Builtin.bitNot i) s)
  | none=>.fail
 | _=>.fail
def strsOf:List AV→Option (List Str)
 | []=>some []
 | .str x :: l=>match strsOf l with
  | some m=>some (x :: m)
  | none=>none
 | _ :: _=>none
def numsOf:List AV→Option (List Int)
 | []=>some []
 | .num x :: l=>match numsOf l with
  | some m=>some (x :: m)
  | none=>none
 | _ :: _=>none
def memS (x:Str):List Str→Bool
 | []=>false
 | k :: l=>match k==x with
  | true=>true
  | false=>memS x l
def memI (x:Int):List Int→Bool
 | []=>false
 | k :: l=>k==x||memI x l
def inA (a b:AV):R AV:=
 match a,b with
 | .str x,.str y=>.ret (.bool !(Builtin.Str.occurrences y x 0 y.length 1).isEmpty)
 | .str x,.dS ks _=>.ret (.bool (memS x ks))
 | .str x,.tup l=>match strsOf l with
  | some m=>.ret (.bool (memS x m))
  | none=>.fail
 | .num i,.tup l=>match numsOf l with
  | some m=>.ret (.bool (memI i m))
  | none=>.fail
 | .sym i,.tup l=>match numsOf l with
  | some m=>.ret (.sb (memI i m))
  | none=>.fail
 | _,_=>.fail
def notInA (a b:AV):R AV:=
 match a,b with
 | .str x,.dS ks _=>.ret (.bool (!memS x ks))
 | _,_=>.fail
def isNotA (a b:AV):R AV:=match b with
 | .none=>match a with
  | .none=>.ret (.bool false)
  | .num _=>.ret (.bool true)
  | .sym _=>.ret (.bool true)
  | _=>.fail
 | _=>.fail
def eqA (a b:AV):R AV:=match a,b with
 | .num i,.num j=>.ret (.bool (i==j))
 | .str x,.str y=>.ret (.bool (x==y))
 | _,_=>.need ((eqE (und a) (und b)).isSome=true) (.ret (.sb ((eqE (und a) (und b)).getD false)))
def neA (a b:AV):R AV:=match a,b with
 | .num i,.num j=>.ret (.bool (!(i==j)))
 | .str x,.str y=>.ret (.bool (!(x==y)))
 | _,_=>.need ((eqN (und a) (und b)).isSome=true) (.ret (.sb (!((eqN (und a) (und b)).getD false))))
def ordA (op:CmpOp) (a b:AV):R AV:=match intOf a,intOf b with
 | some (i,s),some (j,t)=>match op with
  | .Lt=>.ret (mkB (decide (i<j)) (s||t))
  | .LtE=>.ret (mkB (decide (i≤j)) (s||t))
  | .Gt=>.ret (mkB (decide (j<i)) (s||t))
  | .GtE=>.ret (mkB (decide (j≤i)) (s||t))
  | _=>.fail
 | _,_=>.fail
def cmpA (op:CmpOp) (a b:AV):R AV:=
 match op with
 | .In=>inA a b
 | .NotIn=>notInA a b
 | .IsNot=>isNotA a b
 | .Eq=>eqA a b
 | .NotEq=>neA a b
 | _=>ordA op a b
def lookS:List Str→List AV→Str→Option AV
 | k :: ks,v :: vs,x=>match k==x with
  | true=>some v
  | false=>lookS ks vs x
 | _,_,_=>none
def lookI:List Int→List AV→Int→Option AV
 | k :: ks,v :: vs,x=>match decide (k=x) with
  | true=>some v
  | false=>lookI ks vs x
 | _,_,_=>none
def strAt:List Int→List Str→Int→Str→Str
 | k :: ks,v :: vs,x,d=>match decide (k=x) with
  | true=>v
  | false=>strAt ks vs x d
 | _,_,_,d=>d
def putS:List Str→List AV→Str→AV→List Str×List AV
 | k :: ks,v :: vs,x,u=>match k==x with
  | true=>(k :: ks,u :: vs)
  | false=>let (a,b):=putS ks vs x u; (k :: a,v :: b)
 | _,_,x,u=>([x],[u])
def putI:List Int→List AV→Int→AV→List Int×List AV
 | k :: ks,v :: vs,x,u=>match decide (k=x) with
  | true=>(k :: ks,u :: vs)
  | false=>let (a,b):=putI ks vs x u; (k :: a,v :: b)
 | _,_,x,u=>([x],[u])
def treeI:List Int→List AV→Int→R AV→R AV
 | k :: ks,v :: vs,x,d=>.ite (decide (k=x)) (.ret v) (treeI ks vs x d)
 | _,_,_,d=>d
inductive DV where
 | s (ks:List Str) (l:List AV) | i (ks:List Int) (l:List AV)
def dictOfV (sl:SL):AV→Option DV
 | .dS ks l=>some (.s ks l)
 | .dI ks l=>some (.i ks l)
 | .loc n=>match sl[n]? with
  | some (.own (.dS ks l))=>some (.s ks l)
  | some (.own (.dI ks l))=>some (.i ks l)
  | _=>none
 | _=>none
def getD (d:DV) (k:AV) (dflt:Option AV):R AV:=
 match d,k with
 | .s ks l,.str x=>match lookS ks l x with
  | some v=>.ret v
  | none=>match dflt with
   | some v=>.ret v
   | none=>.fail
 | .i ks l,.num x=>match lookI ks l x with
  | some v=>.ret v
  | none=>match dflt with
   | some v=>.ret v
   | none=>.fail
 | .i ks l,.sym x=>match strsOf l,dflt with
  | some m,some (.str d)=>.ret (.str (strAt ks m x d))
  | some m,none=>.need (x∈ks) (.ret (.str (strAt ks m x ⟨#[]⟩)))
  | none,some v=>treeI ks l x (.ret v)
  | _,_=>.fail
 | _,_=>.fail
def treeN:Nat→List AV→Int→R AV
 | n,v :: vs,x=>.ite (decide (x=n)) (.ret v) (treeN (n+1) vs x)
 | _,[],_=>.fail
def nthStr:List Str→Nat→Str
 | x :: _,0=>x
 | _ :: l,n+1=>nthStr l n
 | [],_=>⟨#[]⟩
def itemA (sl:SL) (v i:AV):R AV:=
 match v,i with
 | .ints l,.sym x=>.need (0≤x∧x<l.length∧l.length<2 ^ 62) (.ret (.sym (l.getD x.toNat 0)))
 | .ints _,_=>.fail
 | .tup l,.num x=>match x with
  | .ofNat n=>match l[n]? with
   | some v=>guardB (Nat.blt l.length 16777216) (.ret v)
   | none=>.fail
  | _=>.fail
 | _,_=>match itemsL sl v,i with
  | some l,.num (.ofNat n)=>match l[n]? with
   | some v=>guardB (Nat.blt l.length 16777216) (.ret v)
   | none=>.fail
  | some l,.sym x=>match strsOf l with
   | some m=>guardB (Nat.blt m.length 16777216) (.need (0≤x∧x<m.length) (.ret (.str (nthStr m x.toNat))))
   | none=>guardB (Nat.blt l.length 16777216) (treeN 0 l x)
  | _,_=>match dictOfV sl v with
   | some d=>getD d i none
   | none=>.fail
end Mine
end
section
namespace Mine
structure Fn where
 height:Nat
 spec:List AV→R AV
structure WFn where
 height:Nat
 spec:List AV→List AV→R (List AV×AV)
structure Ctx where
 glob:List (Str×AV)
 funs:List (Str×Fn)
 wfuns:List (Str×WFn)
 raise:Bool:=false
abbrev RE:=R (Option SL×AV)
abbrev RL:=R (Option SL×List AV)
def pureE (x:R AV):RE:=x.bind fun v=>.ret (none,v)
def seqE (x:RE) (sl:SL) (k:AV→SL→RE):RE:=x.bind fun p=>match p with
 | (none,v)=>k v sl
 | (some sl₁,v)=>(k v sl₁).bind fun q=>.ret (some (q.1.getD sl₁),q.2)
def seqL (x:RE) (sl:SL) (k:AV→SL→RL):RL:=x.bind fun p=>match p with
 | (none,v)=>k v sl
 | (some sl₁,v)=>(k v sl₁).bind fun q=>.ret (some (q.1.getD sl₁),q.2)
def seqLE (x:RL) (sl:SL) (k:List AV→SL→RE):RE:=x.bind fun p=>match p with
 | (none,v)=>k v sl
 | (some sl₁,v)=>(k v sl₁).bind fun q=>.ret (some (q.1.getD sl₁),q.2)
def pureOf:RE→Option (Prop×AV)
 | .ret (none,u)=>some (True,u)
 | .need p x=>match pureOf x with
  | some (q,u)=>some (p∧q,u)
  | none=>none
 | _=>none
def joinA (b:Bool) (x y:AV):AV:=match intOf x,intOf y with
 | some (i,_),some (j,_)=>.sym (match b with | true=>i | false=>j)
 | _,_=>match boolOf x,boolOf y with
  | some (p,_),some (q,_)=>.sb (match b with | true=>p | false=>q)
  | _,_=>match x,y with
   | .str p,.str q=>.str (match b with | true=>p | false=>q)
   | _,_=>.ite b x y
abbrev Ev:=Scope→AEnv→Expr→SL→RE
def putEnv (x:Str) (v:AV) (env:AEnv):AEnv:=(x,v) :: env.filter fun p=>!(p.1==x)
def evL (ev:Expr→SL→RE):List Expr→SL→RL
 | [],_=>.ret (none,[])
 | .Starred _ _ :: _,_=>.fail
 | e :: r,sl=>seqL (ev e sl) sl fun v sl=>(evL ev r sl).bind fun q=>.ret (q.1,v :: q.2)
def keysS:List (Option Expr)→Option (List Str)
 | []=>some []
 | some (.Constant (.str x) _ _) :: r=>(keysS r).map (x :: ·)
 | _ :: _=>none
def boolK (op:BoolOp) (rest:RE) (v:AV):RE:=match v with
 | .bool b=>(match op,b with
  | .And,false=>.ret (none,.bool false)
  | .Or,true=>.ret (none,.bool true)
  | _,_=>rest)
 | .sb b=>(match op,pureOf rest with
  | .And,some (p,u)=>(match boolOf u with
   | some (c,_)=>.need (b=true→p) (.ret (none,.sb (b&&c)))
   | none=>.fail)
  | .Or,some (p,u)=>(match boolOf u with
   | some (c,_)=>.need (b=false→p) (.ret (none,.sb (b||c)))
   | none=>.fail)
  | .And,none=>.ite b rest (.ret (none,.bool false))
  | .Or,none=>.ite b (.ret (none,.bool true)) rest)
 | _=>.fail
def boolE (op:BoolOp) (ev:Expr→SL→RE):List Expr→SL→RE
 | [],_=>.fail
 | [e],sl=>ev e sl
 | e :: e' :: r,sl=>seqE (ev e sl) sl fun v sl=>boolK op (boolE op ev (e' :: r) sl) v
def cmpE (ev:Expr→SL→RE) (left:AV):List CmpOp→List Expr→SL→RE
 | [op],[e],sl=>(match behindInMarks op e with
  | true=>.fail
  | false=>seqE (ev e sl) sl fun v _=>pureE (cmpA op left v))
 | op :: op' :: ops,e :: e' :: es,sl=>seqE (ev e sl) sl fun v sl=>(cmpA op left v).bind fun c=>boolK .And (cmpE ev v (op' :: ops) (e' :: es) sl) c
 | _,_,_=>.fail
def noStar:List Expr→Bool
 | []=>true
 | .Starred _ _ :: _=>false
 | _ :: r=>noStar r
def onTest (x:RE) (sl:SL) (t f:SL→RE):RE:=seqE x sl fun v sl=>match v with
 | .bool true=>t sl
 | .bool false=>f sl
 | .sb b=>(match pureOf (t sl),pureOf (f sl) with
  | some (p,u),some (q,v)=>.need ((b=true→p)∧(b=false→q)) (.ret (none,joinA b u v))
  | _,_=>.ite b (t sl) (f sl))
 | _=>.fail
def isWell (x:Expr):Bool:=match x with
 | .Name n _=>n==("well" : Str)
 | _=>false
def rangeOf (l:List AV):Option AV:=match l with
 | [.num n]=>some (.rng 0 n 1)
 | [.num a,.num b]=>some (.rng a b 1)
 | [.num a,.num b,.num c]=>match decide (0<c∧c<1000000) with
  | true=>some (.rng a b c)
  | false=>none
 | _=>none
def upFrom (a c:Int):Nat→List Int
 | 0=>[]
 | n+1=>a :: upFrom (a+c) c n
def rngL (a b c:Int):List Int:=upFrom a c (Builtin.Range.rangeSize a b c).toNat
def rngOk (a b c:Int):Bool:=Builtin.Range.small a b c&&decide (Builtin.Range.rangeSize a b c=((Builtin.Range.rangeSize a b c).toNat:Int))&&Nat.ble (Builtin.Range.rangeSize a b c).toNat 16777216
def charsOf (x:Str):List AV:=x.cps.toList.map fun c=>.str ⟨#[c]⟩
def iterA:AV→Option (List AV)
 | .tup l=>some l
 | .lst l=>some l
 | .ints l=>some (l.map .sym)
 | .str x=>some (charsOf x)
 | .dS ks _=>some (ks.map .str)
 | .rng a b c=>match rngOk a b c with
  | true=>some ((rngL a b c).map .num)
  | false=>none
 | _=>none
def allB:List AV→Option (Bool×Bool)
 | []=>some (true,false)
 | x :: l=>match boolOf x,allB l with
  | some (b,s),some (c,t)=>some (b&&c,s||t)
  | _,_=>none
def frzE (sl:SL) (v:AV):RE:=match pureA v with
 | true=>.ret (none,v)
 | false=>match frz 64 sl v with
  | some (sl',v')=>guardB (pureA v') (.ret (some sl',v'))
  | none=>.fail
def frzLE (sl:SL) (l:List AV):RL:=match pureL l with
 | true=>.ret (none,l)
 | false=>match frzL 64 sl l with
  | some (sl',l')=>guardB (pureL l') (.ret (some sl',l'))
  | none=>.fail
inductive BK where
 | len | range | sum | all | int | str | list
def bkOf (f:Str):Option BK:=match f==("len" : Str) with
 | true=>some .len
 | false=>match f==("range" : Str) with
  | true=>some .range
  | false=>match f==("sum" : Str) with
   | true=>some .sum
   | false=>match f==("all" : Str) with
    | true=>some .all
    | false=>match f==("int" : Str) with
     | true=>some .int
     | false=>match f==("str" : Str) with
      | true=>some .str
      | false=>match f==("list" : Str) with
       | true=>some .list
       | false=>none
def binOk:List Nat→Bool
 | []=>true
 | c :: l=>(c==48||c==49)&&binOk l
def binVal:List Nat→Nat→Nat
 | [],acc=>acc
 | c :: l,acc=>binVal l (acc*2+(c - 48))
def callK (k:BK) (sl:SL) (args:List AV):R AV:=match k,args with
 | .len,[.str x]=>guardB (Nat.blt x.length 16777216) (.ret (.num x.length))
 | .len,[.ints l]=>.need (l.length<2 ^ 62) (.ret (.sym l.length))
 | .len,[v]=>(match itemsL sl v with
  | some l=>guardB (Nat.blt l.length 16777216) (.ret (.num l.length))
  | none=>.fail)
 | .range,l=>(match rangeOf l with
  | some v=>.ret v
  | none=>.fail)
 | .sum,[.ints l]=>.ret (.sym l.sum)
 | .all,[.lst l]=>(match allB l with
  | some (b,s)=>.ret (mkB b s)
  | none=>.fail)
 | .int,[.str x]=>(match PySem.intText? x with
  | some i=>guardB (Nat.ble x.length 640) (.ret (.num i))
  | none=>.fail)
 | .int,[.str x,.num 2]=>guardB (binOk x.cps.toList&&!x.cps.toList.isEmpty&&Nat.ble x.cps.toList.length 640) (.ret (.num (binVal x.cps.toList 0:Nat)))
 | .str,[.num i]=>guardB (Nat.blt i.natAbs 1000000) (.ret (.str (Str.ofString (toString i))))
 | .list,[.rng a b c]=>guardB (rngOk a b c) (.ret (.lst ((rngL a b c).map .num)))
 | _,_=>.fail
inductive MK where
 | get | split | count | join | append | setdefault
def mkOf (m:Str):Option MK:=match m==("get" : Str) with
 | true=>some .get
 | false=>match m==("split" : Str) with
  | true=>some .split
  | false=>match m==("count" : Str) with
   | true=>some .count
   | false=>match m==("join" : Str) with
    | true=>some .join
    | false=>match m==("append" : Str) with
     | true=>some .append
     | false=>match m==("setdefault" : Str) with
      | true=>some .setdefault
      | false=>none
def isStrA:AV→Bool
 | .str _=>true
 | _=>false
def onK (k:MK) (sl:SL) (o:AV):Bool:=match k with
 | .get=>(dictOfV sl o).isSome
 | .setdefault=>(dictOfV sl o).isSome
 | .append=>(itemsL sl o).isSome
 | _=>isStrA o
def callMK (k:MK) (sl:SL) (o:AV) (args:List AV):RE:=match k,o,args with
 | .get,o,[k,d]=>(match dictOfV sl o with
  | some dv=>pureE (getD dv k (some d))
  | none=>.fail)
 | .split,.str x,[.str y]=>guardB (Nat.blt x.length 10000&&!(y.length==0)) (.ret (none,.lst ((Txt.split x y).map .str)))
 | .count,.str x,[.str y]=>.ret (none,.num (Txt.count x y))
 | .join,.str x,[.lst l]=>(match strsOf l with
  | some ts=>guardB (JoinOk x ts) (.ret (none,.str (Txt.join x ts)))
  | none=>.fail)
 | .append,.loc n,[v]=>(match sl[n]? with
  | some (.own (.lst l))=>guardB (Nat.blt l.length 10000000) (.ret (some (sl.set n (.own (.lst (l++[v])))),.none))
  | _=>.fail)
 | .setdefault,.loc n,[k,d]=>(match sl[n]?,k with
  | some (.own (.dI ks l)),.num x=>(match lookI ks l x with
   | some v=>guardB (Nat.blt ks.length 1000) (.ret (none,v))
   | none=>guardB (Nat.blt ks.length 1000) (.ret (some (sl.set n (.own (.dI (ks++[x]) (l++[d])))),d)))
  | some (.own (.dS [] [])),.num x=>.ret (some (sl.set n (.own (.dI [x] [d]))),d)
  | _,_=>.fail)
 | _,_,_=>.fail
def noX {α:Type}:R α→R α
 | .ret a=>.ret a
 | .ite b x y=>.ite b (noX x) (noX y)
 | .need p x=>.need p (noX x)
 | _=>.fail
def seqLX (x:RE) (k:AV→RL):RL:=x.bind fun p=>match p with
 | (none,c)=>k c
 | _=>.fail
def compItems (ev:AV→SL→RE) (test:AV→SL→RE):List AV→SL→RL
 | [],_=>.ret (none,[])
 | x :: l,sl=>seqLX (test x sl) fun c=>match c with
  | .bool true=>seqL (ev x sl) sl fun v sl=>(compItems ev test l sl).bind fun q=>.ret (q.1,v :: q.2)
  | .bool false=>compItems ev test l sl
  | _=>.fail
def compInts (ev:AV→SL→RE) (l:List Int) (sl:SL):RE:=
 .need (l.length<10000000∧∀ i∈l,∃ j,ev (.sym i) sl=.ret (none,.sym j)) (.ret (none,.ints (l.map fun i=>match ev (.sym i) sl with | .ret (none,.sym j)=>j | _=>0)))
def sliceA (sl:SL) (v:AV) (l u s:Option Expr):R AV:=
 match l,u,s with
 | none,some (.Constant (.int (.ofNat n)) _ _),none=>(match v with
  | .ints l=>.need (l.length<10000000∧n<1000000) (.ret (.ints (l.take n)))
  | _=>.fail)
 | none,none,some (.UnaryOp .USub (.Constant (.int 1) _ _) _)=>(match v with
  | .lst l=>guardB (Nat.blt l.length 10000000) (.ret (.lst l.reverse))
  | _=>.fail)
 | _,_,_=>.fail
def compScope (outer:Scope) (scope:Scope):Scope:=
 { scope with names:=scope.names.map fun p=>if p.2==.free&&outer.names.lookup p.1==some .cell then (p.1,.cell) else p }
def notSet:Expr→Bool
 | .Set _ _ _=>false
 | _=>true
def compOk (outer scope:Scope) (x:Str) (iter:Expr):Bool:=
 decide (scope.kind=.function)&&scope.names.all (fun p=>!decide (p.2=.cell))&&scope.names.all (fun p=>!decide (p.2=.local)||decide (scope.names.lookup p.1=some .local))&&decide (scope.names.lookup x=some .local)&&scope.names.all (fun p=>!decide (p.2=.free)||decide (scope.names.lookup p.1=some .free))
  && scope.names.all (fun p=>!decide (p.2=.free)||decide (outer.names.lookup p.1=some .cell)||decide (outer.names.lookup p.1=some .free))&&notSet iter
def capEnv (sc:Scope) (env:AEnv):AEnv:=env.filter fun p=>decide (sc.names.lookup p.1=some .cell)||decide (sc.names.lookup p.1=some .free)
def isDisp:Expr→Bool
 | .List _ _=>true
 | .Dict _ _ _=>true
 | _=>false
def evOwn (ev:Expr→SL→RE) (e:Expr) (sl:SL):RE:=match e with
 | .List elts _=>seqLE (evL ev elts sl) sl fun l sl=>guardB (Nat.blt l.length 16777216) (.ret (some (sl++[Slot.own (.lst l)]),.loc sl.length))
 | .Dict keys values _=>(match keysS keys,decide (keys.length=values.length∧keys.length≤15) with
  | some ks,true=>(match decide ks.Nodup with
   | true=>seqLE (evL ev values sl) sl fun l sl=>.ret (some (sl++[Slot.own (.dS ks l)]),.loc sl.length)
   | false=>.fail)
  | _,_=>.fail)
 | _=>ev e sl
def evOwns (ev:Expr→SL→RE):List Expr→SL→RL
 | [],_=>.ret (none,[])
 | .Starred _ _ :: _,_=>.fail
 | e :: r,sl=>seqL (evOwn ev e sl) sl fun v sl=>(evOwns ev r sl).bind fun q=>.ret (q.1,v :: q.2)
def testA (ev:Expr→SL→RE) (ifs:List Expr) (sl:SL):RE:=match ifs with
 | []=>.ret (none,.bool true)
 | [t]=>ev t sl
 | _=>.fail
def compA (ev:AEnv→Expr→SL→RE) (cenv:AEnv) (x:Str) (elt:Expr) (ifs:List Expr) (src:AV) (sl:SL):RE:=
 match ifs,src with
 | [],.ints l=>compInts (fun v sl=>ev (putEnv x v cenv) elt sl) l sl
 | _,_=>match iterA src with
  | some items=>guardB (Nat.blt items.length 10000000) (seqLE (compItems (fun v sl=>ev (putEnv x v cenv) elt sl) (fun v sl=>testA (ev (putEnv x v cenv)) ifs sl) items sl) sl fun l _=>.ret (none,.lst l))
  | none=>.fail
def callN (C:Ctx) (d:Nat) (ev:Expr→SL→RE) (env:AEnv) (f:Str) (args:List Expr) (sl:SL):RE:=match C.wfuns.lookup f,args with
 | some wf,wx :: rest=>(match isWell wx,env.lookup ("well" : Str),Nat.blt wf.height d with
  | true,some (.loc n),true=>seqLE (evL ev rest sl) sl fun l sl=>seqLE (frzLE sl l) sl fun l sl=>(match sl[n]? with
   | some (.own (.lst items))=>(match pureL items with
    | true=>(wf.spec items l).bind fun q=>.ret (some (sl.set n (.own (.lst q.1))),q.2)
    | false=>.fail)
   | _=>.fail)
  | _,_,_=>.fail)
 | some _,[]=>.fail
 | none,_=>match C.funs.lookup f with
  | some fn=>(match Nat.blt fn.height d with
   | true=>seqLE (evL ev args sl) sl fun l sl=>seqLE (frzLE sl l) sl fun l _=>pureE (fn.spec l)
   | false=>.fail)
  | none=>(match bkOf f with
   | some k=>seqLE (evL ev args sl) sl fun l sl=>pureE (callK k sl l)
   | none=>.fail)
def isPlainO (o:Expr):Bool:=match o with
 | .Call (.Name id _) [] [] _=>!(id==("super" : Str))
 | _=>true
def methA (ev:Expr→SL→RE) (o:Expr) (m:Str) (apos pos:Pos) (args:List Expr) (sl:SL):RE:=
 match mkOf m,apos.endLine==pos.line&&isPlainO o&&Nat.blt args.length 20&&noStar args with
 | some k,true=>seqE (ev o sl) sl fun a sl=>guardB (onK k sl a) (match k with
  | .setdefault=>seqLE (evOwns ev args sl) sl fun l sl=>callMK k sl a l
  | _=>seqLE (evL ev args sl) sl fun l sl=>callMK k sl a l)
 | _,_=>.fail
def nameA (C:Ctx) (d:Nat) (ev:Expr→SL→RE) (sc:Scope) (env:AEnv) (f:Str) (args:List Expr) (sl:SL):RE:=match env.lookup f with
 | some _=>.fail
 | none=>match sc.names.lookup f,noStar args&&!(f==("__debug__" : Str)) with
  | some .globalImplicit,true=>callN C d ev env f args sl
  | _,_=>.fail
def genA (ev:Ev) (sc:Scope) (env:AEnv) (elt:Expr) (gens:List Comprehension) (scope:Scope) (sl:SL):RE:=match gens with
 | [⟨.Name x _,iter,ifs,0⟩]=>(match compOk sc scope x iter with
  | true=>noX (seqE (ev sc env iter sl) sl fun src sl=>seqE (frzE sl src) sl fun src sl=>compA (ev (compScope sc scope)) (capEnv (compScope sc scope) env) x elt ifs src sl)
  | false=>.fail)
 | _=>.fail
def stepE (C:Ctx) (d:Nat) (ev:Ev) (sc:Scope) (env:AEnv) (e:Expr) (sl:SL):RE:=
 match e with
 | .Constant c _ _=>(match c with
  | .none=>.ret (none,.none)
  | .bool b=>.ret (none,.bool b)
  | .int i=>.ret (none,.num i)
  | .str s=>.ret (none,.str s)
  | _=>.fail)
 | .Name x _=>(match x==("__debug__" : Str)||x==("__classdict__" : Str) with
  | true=>.fail
  | false=>match env.lookup x with
   | some v=>.ret (none,res sl v)
   | none=>match sc.names.lookup x with
    | some .globalImplicit=>(match C.glob.lookup x with
     | some v=>.ret (none,v)
     | none=>.fail)
    | _=>.fail)
 | .BinOp l op r _=>seqE (ev sc env l sl) sl fun a sl=>seqE (ev sc env r sl) sl fun b _=>pureE (binA op a b)
 | .UnaryOp op x _=>seqE (ev sc env x sl) sl fun a _=>pureE (unA op a)
 | .BoolOp op vs _=>boolE op (ev sc env) vs sl
 | .Compare l ops rs _=>seqE (ev sc env l sl) sl fun a sl=>cmpE (ev sc env) a ops rs sl
 | .IfExp t b o _=>onTest (ev sc env t sl) sl (ev sc env b) (ev sc env o)
 | .List elts _=>seqLE (evL (ev sc env) elts sl) sl fun l _=>guardB (Nat.blt l.length 16777216) (.ret (none,.lst l))
 | .Tuple elts _ _=>seqLE (evL (ev sc env) elts sl) sl fun l _=>guardB (Nat.blt l.length 16777216) (.ret (none,.tup l))
 | .Dict keys values _=>(match keysS keys,decide (keys.length=values.length∧keys.length≤15) with
  | some ks,true=>(match decide ks.Nodup with
   | true=>seqLE (evL (ev sc env) values sl) sl fun l _=>.ret (none,.dS ks l)
   | false=>.fail)
  | _,_=>.fail)
 | .Subscript v (.Slice l u s _) _=>seqE (ev sc env v sl) sl fun a sl=>pureE (sliceA sl a l u s)
 | .Subscript v i _=>seqE (ev sc env v sl) sl fun a sl=>seqE (ev sc env i sl) sl fun b sl=>pureE (itemA sl a b)
 | .Call (.Attribute o m apos) args [] pos=>methA (ev sc env) o m apos pos args sl
 | .Call (.Name f _) args [] _=>nameA C d (ev sc env) sc env f args sl
 | .ListComp elt gens scope _=>genA ev sc env elt gens scope sl
 | _=>.fail
def evalE (C:Ctx) (d:Nat):Nat→Ev
 | 0=>fun _ _ _ _=>.fail
 | n+1=>stepE C d (evalE C d n)
inductive Fl where
 | nxt | ret (v:AV)
abbrev RS:=R (Fl×AEnv×SL)
def canStore (sc:Scope) (x:Str):Bool:=match sc.names.lookup x with
 | some .local=>true
 | some .cell=>true
 | _=>false
def notComp:Expr→Bool
 | .ListComp _ _ _ _=>false
 | .SetComp _ _ _ _=>false
 | .DictComp _ _ _ _ _=>false
 | _=>true
def bindT (sc:Scope) (t:Expr) (v:AV) (env:AEnv):Option AEnv:=match t with
 | .Name x _=>(match canStore sc x with
  | true=>some (putEnv x v env)
  | false=>none)
 | _=>none
def bindTs (sc:Scope):List Expr→List AV→AEnv→Option AEnv
 | [],[],env=>some env
 | t :: ts,v :: vs,env=>(match bindT sc t v env with
  | some env=>bindTs sc ts vs env
  | none=>none)
 | _,_,_=>none
def bindP (sc:Scope) (t:Expr) (v:AV) (env:AEnv):Option AEnv:=match t with
 | .Name x _=>bindT sc (.Name x ⟨0,0,0,0⟩) v env
 | .Tuple ts _ _=>(match v with
  | .tup l=>bindTs sc ts l env
  | .lst l=>bindTs sc ts l env
  | _=>none)
 | _=>none
def namesOf:List Expr→Option (List Str)
 | []=>some []
 | .Name x _ :: r=>match namesOf r with
  | some l=>some (x :: l)
  | none=>none
 | _ :: _=>none
def swapOk (ts vs:List Expr):Bool:=match namesOf ts with
 | some xs=>decide xs.Nodup&&noStar vs&&!(vs.all (constantsAlone 8))
 | none=>false
def storeA (sl:SL) (o i v:AV):Option SL:=match o with
 | .loc n=>(match sl[n]?,i with
  | some (.own (.lst l)),.num (.ofNat k)=>(match Nat.blt k l.length,Nat.blt l.length 16777216 with
   | true,true=>some (sl.set n (.own (.lst (l.set k v))))
   | _,_=>none)
  | some (.own (.dS ks l)),.str x=>(match Nat.blt ks.length 1000 with
   | true=>let (a,b):=putS ks l x v; some (sl.set n (.own (.dS a b)))
   | false=>none)
  | some (.own (.dI ks l)),.num x=>(match Nat.blt ks.length 1000 with
   | true=>let (a,b):=putI ks l x v; some (sl.set n (.own (.dI a b)))
   | false=>none)
  | some (.own (.dS [] [])),.num x=>some (sl.set n (.own (.dI [x] [v])))
  | _,_=>none)
 | _=>none
def loopS (sc:Scope) (body:AEnv→SL→RS) (t:Expr):List AV→AEnv→SL→RS
 | [],env,sl=>.ret (.nxt,env,sl)
 | x :: l,env,sl=>match bindP sc t x env with
  | none=>.fail
  | some env'=>(body env' sl).bind fun p=>match p with
   | (.nxt,env₁,sl₁)=>loopS sc body t l env₁ sl₁
   | (.ret v,env₁,sl₁)=>.ret (.ret v,env₁,sl₁)
abbrev Es:=AEnv→List Stmt→SL→RS
def assignA (sc:Scope) (ev:Expr→SL→RE) (t value:Expr) (env:AEnv) (sl:SL):RS:=match t with
 | .Name x _=>guardB (canStore sc x&&notComp value) ((evOwn ev value sl).bind fun p=>.ret (.nxt,putEnv x p.2 env,p.1.getD sl))
 | .Tuple ts _ _=>(match value with
  | .Tuple vs _ _=>guardB (swapOk ts vs&&Nat.blt vs.length 1000) ((evOwns ev vs sl).bind fun p=>(match bindTs sc ts p.2 env with
   | some env'=>.ret (.nxt,env',p.1.getD sl)
   | none=>.fail))
  | _=>guardB (notComp value) ((ev value sl).bind fun p=>(match bindP sc t p.2 env with
   | some env'=>.ret (.nxt,env',p.1.getD sl)
   | none=>.fail)))
 | .Subscript o i _=>guardB (notComp value) ((ev value sl).bind fun p=>(ev o (p.1.getD sl)).bind fun q=>(ev i (q.1.getD (p.1.getD sl))).bind fun r=>
    (match storeA (r.1.getD (q.1.getD (p.1.getD sl))) q.2 r.2 p.2 with
     | some sl'=>.ret (.nxt,env,sl')
     | none=>.fail))
 | _=>.fail
def joinS (sc:Scope) (ev:Expr→SL→RE) (env:AEnv) (body orelse:List Stmt) (b:Bool) (sl:SL):Option RS:=match body,orelse with
 | [.Assign [.Name x _] e _],[]=>(match isDisp e,canStore sc x&&notComp e,pureOf (ev e sl),env.lookup x with
  | false,true,some (q,v),some u=>some (.need (b=true→q) (.ret (.nxt,putEnv x (joinA b v u) env,sl)))
  | _,_,_,_=>none)
 | _,_=>none
def stepS (C:Ctx) (d:Nat) (n:Nat) (sc:Scope) (es:Es) (env:AEnv) (st:Stmt) (sl:SL):RS:=
 let ev:Expr→SL→RE:=evalE C d n sc env
 match st with
 | .Assign [t] value _=>assignA sc ev t value env sl
 | .Return (some e) _=>(ev e sl).bind fun p=>.ret (.ret p.2,env,p.1.getD sl)
 | .Expr e _=>guardB (notComp e) ((ev e sl).bind fun p=>(match p.2 with
  | .none=>.ret (.nxt,env,p.1.getD sl)
  | _=>.fail))
 | .If test body orelse _=>(ev test sl).bind fun p=>(match p.2 with
  | .bool true=>es env body (p.1.getD sl)
  | .bool false=>es env orelse (p.1.getD sl)
  | .sb b=>(match joinS sc ev env body orelse b (p.1.getD sl) with
   | some r=>r
   | none=>.ite b (es env body (p.1.getD sl)) (es env orelse (p.1.getD sl)))
  | _=>.fail)
 | .For t iter body [] _=>guardB (notSet iter) ((ev iter sl).bind fun p=>(frzE (p.1.getD sl) p.2).bind fun q=>(match iterA q.2 with
  | some items=>loopS sc (fun env sl=>es env body sl) t items env (q.1.getD (p.1.getD sl))
  | none=>.fail))
 | .Raise (some (.Call (.Name f _) args [] _)) none _=>(match C.raise&&(f==("AssemblyFault" : Str))&&noStar args&&Nat.beq args.length 2 with
  | true=>(evL ev args sl).bind fun _=>.exc
  | false=>.fail)
 | _=>.fail
def seqS (x:RS) (k:AEnv→SL→RS):RS:=x.bind fun p=>match p with
 | (.nxt,env,sl)=>k env sl
 | (.ret v,env,sl)=>.ret (.ret v,env,sl)
def evalS (C:Ctx) (d:Nat) (sc:Scope):Nat→Es
 | 0=>fun _ _ _=>.fail
 | n+1=>fun env st sl=>match st with
  | []=>.ret (.nxt,env,sl)
  | s :: r=>seqS (stepS C d n sc (evalS C d sc n) env s sl) fun env sl=>evalS C d sc n env r sl
def runF (C:Ctx) (d:Nat) (n:Nat) (sc:Scope) (body:List Stmt) (env:AEnv):R AV:=
 (evalS C d sc n env body []).bind fun p=>match p with
  | (.ret v,_,sl)=>(frzE sl v).bind fun q=>.ret q.2
  | (.nxt,_,_)=>.ret .none
def runW (C:Ctx) (d:Nat) (n:Nat) (sc:Scope) (body:List Stmt) (env:AEnv) (well:List AV):R (List AV×AV):=
 (evalS C d sc n env body [.own (.lst well)]).bind fun p=>match p with
  | (.ret v,_,sl)=>(frzE sl v).bind fun q=>match (q.1.getD sl)[0]? with
   | some (Slot.own (.lst l))=>(match pureL l with
    | true=>.ret (l,q.2)
    | false=>.fail)
   | _=>.fail
  | (.nxt,_,_)=>.fail
end Mine
end
section
namespace Mine
def g_REGISTER_NAMES:AV:=(.lst [.str "zero",.str "ra",.str "sp",.str "gp",.str "tp",.str "t0",.str "t1",.str "t2",.str "s0",.str "s1",.str "a0",.str "a1",.str "a2",.str "a3",.str "a4",.str "a5",.str "a6",.str "a7",.str "s2",.str "s3",.str "s4",.str "s5",.str "s6",.str "s7",.str "s8",.str "s9",.str "s10",.str "s11",.str "t3",.str "t4",.str "t5",.str "t6"])
def g_LUI:AV:=(.num (55))
def g_AUIPC:AV:=(.num (23))
def g_JAL:AV:=(.num (111))
def g_WITH_IMM:AV:=(.num (19))
def g_WITH_REG:AV:=(.num (51))
def g_FENCE:AV:=(.num (15))
def g_SYSTEM:AV:=(.num (115))
def g_INSTRUCTIONS:AV:=(.dS [Str.ofString "lui",Str.ofString "auipc",Str.ofString "jal",Str.ofString "jalr",Str.ofString "beq",Str.ofString "bne",Str.ofString "blt",Str.ofString "bge",Str.ofString "bltu",Str.ofString "bgeu",Str.ofString "lb",Str.ofString "lh",Str.ofString "lw",Str.ofString "lbu",Str.ofString "lhu",Str.ofString "sb",Str.ofString "sh",Str.ofString "sw",Str.ofString "addi",Str.ofString "slti",Str.ofString "sltiu",Str.ofString "xori",Str.ofString "ori",Str.ofString "andi",Str.ofString "slli",Str.ofString "srli",Str.ofString "srai",Str.ofString "add",Str.ofString "sub",Str.ofString "sll",Str.ofString "slt",Str.ofString "sltu",Str.ofString "xor",Str.ofString "srl",Str.ofString "sra",Str.ofString "or",Str.ofString "and",Str.ofString "mul",Str.ofString "mulh",Str.ofString "mulhsu",Str.ofString "mulhu",Str.ofString "div",Str.ofString "divu",Str.ofString "rem",Str.ofString "remu",Str.ofString "fence",Str.ofString "ecall",Str.ofString "ebreak"] [.tup [.str "U",.num 55],.tup [.str "U",.num 23],.tup [.str "J",.num 111],.tup [.str "I",.num 103],.tup [.str "B",.num 99],.tup [.str "B",.num 4195],.tup [.str "B",.num 16483],.tup [.str "B",.num 20579],.tup [.str "B",.num 24675],.tup [.str "B",.num 28771],.tup [.str "I",.num 3],.tup [.str "I",.num 4099],.tup [.str "I",.num 8195],.tup [.str "I",.num 16387],.tup [.str "I",.num 20483],.tup [.str "S",.num 35],.tup [.str "S",.num 4131],.tup [.str "S",.num 8227],.tup [.str "I",.num 19],.tup [.str "I",.num 8211],.tup [.str "I",.num 12307],.tup [.str "I",.num 16403],.tup [.str "I",.num 24595],.tup [.str "I",.num 28691],.tup [.str "H",.num 4115],.tup [.str "H",.num 20499],.tup [.str "H",.num 1073762323],.tup [.str "R",.num 51],.tup [.str "R",.num 1073741875],.tup [.str "R",.num 4147],.tup [.str "R",.num 8243],.tup [.str "R",.num 12339],.tup [.str "R",.num 16435],.tup [.str "R",.num 20531],.tup [.str "R",.num 1073762355],.tup [.str "R",.num 24627],.tup [.str "R",.num 28723],.tup [.str "R",.num 33554483],.tup [.str "R",.num 33558579],.tup [.str "R",.num 33562675],.tup [.str "R",.num 33566771],.tup [.str "R",.num 33570867],.tup [.str "R",.num 33574963],.tup [.str "R",.num 33579059],.tup [.str "R",.num 33583155],.tup [.str "F",.num 15],.tup [.str "E",.num 115],.tup [.str "E",.num 1048691]])
def g_PLACES:AV:=(.dS ["R","I","H","S","B","U","J","F","E"] [(.tup [.tup [.str "rd",.num 7],.tup [.str "rs1",.num 15],.tup [.str "rs2",.num 20]]),(.tup [.tup [.str "rd",.num 7],.tup [.str "rs1",.num 15]]),(.tup [.tup [.str "rd",.num 7],.tup [.str "rs1",.num 15]]),(.tup [.tup [.str "rs1",.num 15],.tup [.str "rs2",.num 20]]),(.tup [.tup [.str "rs1",.num 15],.tup [.str "rs2",.num 20]]),(.tup [.tup [.str "rd",.num 7]]),(.tup [.tup [.str "rd",.num 7]]),.tup [],.tup []])
def g_BOUNDS:AV:=(.dS ["I","H","S","B","U","J","F"] [.tup [.num (-2048),.num 2047,.num 1],.tup [.num 0,.num 31,.num 1],.tup [.num (-2048),.num 2047,.num 1],.tup [.num (-4096),.num 4094,.num 2],.tup [.num 0,.num 1048575,.num 1],.tup [.num (-1048576),.num 1048574,.num 2],.tup [.num 0,.num 255,.num 1]])
def g_REGISTER_NUMBERS:AV:=(.dS [Str.ofString "fp",Str.ofString "zero",Str.ofString "x0",Str.ofString "ra",Str.ofString "x1",Str.ofString "sp",Str.ofString "x2",Str.ofString "gp",Str.ofString "x3",Str.ofString "tp",Str.ofString "x4",Str.ofString "t0",Str.ofString "x5",Str.ofString "t1",Str.ofString "x6",Str.ofString "t2",Str.ofString "x7",Str.ofString "s0",Str.ofString "x8",Str.ofString "s1",Str.ofString "x9",Str.ofString "a0",Str.ofString "x10",Str.ofString "a1",Str.ofString "x11",Str.ofString "a2",Str.ofString "x12",Str.ofString "a3",Str.ofString "x13",Str.ofString "a4",Str.ofString "x14",Str.ofString "a5",Str.ofString "x15",Str.ofString "a6",Str.ofString "x16",Str.ofString "a7",Str.ofString "x17",Str.ofString "s2",Str.ofString "x18",Str.ofString "s3",Str.ofString "x19",Str.ofString "s4",Str.ofString "x20",Str.ofString "s5",Str.ofString "x21",Str.ofString "s6",Str.ofString "x22",Str.ofString "s7",Str.ofString "x23",Str.ofString "s8",Str.ofString "x24",Str.ofString "s9",Str.ofString "x25",Str.ofString "s10",Str.ofString "x26",Str.ofString "s11",Str.ofString "x27",Str.ofString "t3",Str.ofString "x28",Str.ofString "t4",Str.ofString "x29",Str.ofString "t5",Str.ofString "x30",Str.ofString "t6",Str.ofString "x31"] [.num 8,.num 0,.num 0,.num 1,.num 1,.num 2,.num 2,.num 3,.num 3,.num 4,.num 4,.num 5,.num 5,.num 6,.num 6,.num 7,.num 7,.num 8,.num 8,.num 9,.num 9,.num 10,.num 10,.num 11,.num 11,.num 12,.num 12,.num 13,.num 13,.num 14,.num 14,.num 15,.num 15,.num 16,.num 16,.num 17,.num 17,.num 18,.num 18,.num 19,.num 19,.num 20,.num 20,.num 21,.num 21,.num 22,.num 22,.num 23,.num 23,.num 24,.num 24,.num 25,.num 25,.num 26,.num 26,.num 27,.num 27,.num 28,.num 28,.num 29,.num 29,.num 30,.num 30,.num 31,.num 31])
def g_NAMES_BY_BASE:AV:=(.dI [55,23,111,103,99,4195,16483,20579,24675,28771,3,4099,8195,16387,20483,35,4131,8227,19,8211,12307,16403,24595,28691,4115,20499,1073762323,51,1073741875,4147,8243,12339,16435,20531,1073762355,24627,28723,33554483,33558579,33562675,33566771,33570867,33574963,33579059,33583155,15,115,1048691] [.str "lui",.str "auipc",.str "jal",.str "jalr",.str "beq",.str "bne",.str "blt",.str "bge",.str "bltu",.str "bgeu",.str "lb",.str "lh",.str "lw",.str "lbu",.str "lhu",.str "sb",.str "sh",.str "sw",.str "addi",.str "slti",.str "sltiu",.str "xori",.str "ori",.str "andi",.str "slli",.str "srli",.str "srai",.str "add",.str "sub",.str "sll",.str "slt",.str "sltu",.str "xor",.str "srl",.str "sra",.str "or",.str "and",.str "mul",.str "mulh",.str "mulhsu",.str "mulhu",.str "div",.str "divu",.str "rem",.str "remu",.str "fence",.str "ecall",.str "ebreak"])
def g_law_turns:AV:=(.dS [Str.ofString "B",Str.ofString "J"] [(.lst [(.num (12)),(.num (10)),(.num (9)),(.num (8)),(.num (7)),(.num (6)),(.num (5)),(.num (4)),(.num (3)),(.num (2)),(.num (1)),(.num (11))]),(.lst [(.num (20)),(.num (10)),(.num (9)),(.num (8)),(.num (7)),(.num (6)),(.num (5)),(.num (4)),(.num (3)),(.num (2)),(.num (1)),(.num (11)),(.num (19)),(.num (18)),(.num (17)),(.num (16)),(.num (15)),(.num (14)),(.num (13)),(.num (12))])])
def globs:List (Str×AV):=[(Str.ofString "REGISTER_NAMES",g_REGISTER_NAMES),(Str.ofString "LUI",g_LUI),(Str.ofString "AUIPC",g_AUIPC),(Str.ofString "JAL",g_JAL),(Str.ofString "WITH_IMM",g_WITH_IMM),(Str.ofString "WITH_REG",g_WITH_REG),(Str.ofString "FENCE",g_FENCE),(Str.ofString "SYSTEM",g_SYSTEM),(Str.ofString "INSTRUCTIONS",g_INSTRUCTIONS),(Str.ofString "PLACES",g_PLACES),(Str.ofString "BOUNDS",g_BOUNDS),(Str.ofString "REGISTER_NUMBERS",g_REGISTER_NUMBERS),(Str.ofString "NAMES_BY_BASE",g_NAMES_BY_BASE),(Str.ofString "_law_turns",g_law_turns)]
end Mine
end
section
namespace Mine
def v_P:AV:=(.dS ["R","I","H","S","B","U","J","F","E"] [.str "zzzzzzztttttsssssyyydddddxxxxxxx",.str "iiiiiiiiiiiisssssyyydddddxxxxxxx",.str "zzzzzzziiiiisssssyyydddddxxxxxxx",.str "iiiiiiitttttsssssyyyiiiiixxxxxxx",.str "iiiiiiitttttsssssyyyiiiiixxxxxxx",.str "iiiiiiiiiiiiiiiiiiiidddddxxxxxxx",.str "iiiiiiiiiiiiiiiiiiiidddddxxxxxxx",.str "zzzziiiiiiiizzzzzyyyzzzzzxxxxxxx",.str "zzzzzzzzzzzzzzzzzzzzzzzzzxxxxxxx"])
def v_G:AV:=(.lst [.tup [.str "U",.num 55,.str "lui 0 0"],.tup [.str "U",.num 23,.str "auipc 0 0"],.tup [.str "J",.num 111,.str "jal 0 0"],.tup [.str "I",.num 103,.str "jalr 0 0"],.tup [.str "B",.num 99,.str "beq 0 0 bne 1 0 blt 4 0 bge 5 0 bltu 6 0 bgeu 7 0"],.tup [.str "I",.num 3,.str "lb 0 0 lh 1 0 lw 2 0 lbu 4 0 lhu 5 0"],.tup [.str "S",.num 35,.str "sb 0 0 sh 1 0 sw 2 0"],.tup [.str "I",.num 19,.str "addi 0 0 slti 2 0 sltiu 3 0 xori 4 0 ori 6 0 andi 7 0"],.tup [.str "H",.num 19,.str "slli 1 0 srli 5 0 srai 5 32"],.tup [.str "F",.num 15,.str "fence 0 0"],.tup [.str "E",.num 115,.str "ecall 0 0 ebreak 0 8192"],.tup [.str "R",.num 51,.str "add 0 0 sub 0 32 sll 1 0 slt 2 0 sltu 3 0 xor 4 0 srl 5 0 sra 5 32 or 6 0 and 7 0"],.tup [.str "R",.num 51,.str "mul 0 1 mulh 1 1 mulhsu 2 1 mulhu 3 1 div 4 1 divu 5 1 rem 6 1 remu 7 1"]])
def v_K:AV:=(.lst [.tup [.str "d",.str "rd"],.tup [.str "s",.str "rs1"],.tup [.str "t",.str "rs2"],.tup [.str "i",.str "imm"]])
def v_W:AV:=(.lst [.str "",.str "x32",.str "x00",.str "x-1",.str "X1",.str "a8",.str "s12",.str "t7",.str "ra ",.str "f0",.str "pc",.str "x",.str "Zero",.str "sp0"])
def v_N:AV:=(.lst [.str "",.str "nop",.str "ADDI",.str "lwu",.str "addi ",.str "sd"])
def v_ROWS:AV:=(.lst [(.tup [.str "lui",.str "U",(.dS ["x","y","z"] [.num 55,.num 0,.num 0])]),(.tup [.str "auipc",.str "U",(.dS ["x","y","z"] [.num 23,.num 0,.num 0])]),(.tup [.str "jal",.str "J",(.dS ["x","y","z"] [.num 111,.num 0,.num 0])]),(.tup [.str "jalr",.str "I",(.dS ["x","y","z"] [.num 103,.num 0,.num 0])]),(.tup [.str "beq",.str "B",(.dS ["x","y","z"] [.num 99,.num 0,.num 0])]),(.tup [.str "bne",.str "B",(.dS ["x","y","z"] [.num 99,.num 1,.num 0])]),(.tup [.str "blt",.str "B",(.dS ["x","y","z"] [.num 99,.num 4,.num 0])]),(.tup [.str "bge",.str "B",(.dS ["x","y","z"] [.num 99,.num 5,.num 0])]),(.tup [.str "bltu",.str "B",(.dS ["x","y","z"] [.num 99,.num 6,.num 0])]),(.tup [.str "bgeu",.str "B",(.dS ["x","y","z"] [.num 99,.num 7,.num 0])]),(.tup [.str "lb",.str "I",(.dS ["x","y","z"] [.num 3,.num 0,.num 0])]),(.tup [.str "lh",.str "I",(.dS ["x","y","z"] [.num 3,.num 1,.num 0])]),(.tup [.str "lw",.str "I",(.dS ["x","y","z"] [.num 3,.num 2,.num 0])]),(.tup [.str "lbu",.str "I",(.dS ["x","y","z"] [.num 3,.num 4,.num 0])]),(.tup [.str "lhu",.str "I",(.dS ["x","y","z"] [.num 3,.num 5,.num 0])]),(.tup [.str "sb",.str "S",(.dS ["x","y","z"] [.num 35,.num 0,.num 0])]),(.tup [.str "sh",.str "S",(.dS ["x","y","z"] [.num 35,.num 1,.num 0])]),(.tup [.str "sw",.str "S",(.dS ["x","y","z"] [.num 35,.num 2,.num 0])]),(.tup [.str "addi",.str "I",(.dS ["x","y","z"] [.num 19,.num 0,.num 0])]),(.tup [.str "slti",.str "I",(.dS ["x","y","z"] [.num 19,.num 2,.num 0])]),(.tup [.str "sltiu",.str "I",(.dS ["x","y","z"] [.num 19,.num 3,.num 0])]),(.tup [.str "xori",.str "I",(.dS ["x","y","z"] [.num 19,.num 4,.num 0])]),(.tup [.str "ori",.str "I",(.dS ["x","y","z"] [.num 19,.num 6,.num 0])]),(.tup [.str "andi",.str "I",(.dS ["x","y","z"] [.num 19,.num 7,.num 0])]),(.tup [.str "slli",.str "H",(.dS ["x","y","z"] [.num 19,.num 1,.num 0])]),(.tup [.str "srli",.str "H",(.dS ["x","y","z"] [.num 19,.num 5,.num 0])]),(.tup [.str "srai",.str "H",(.dS ["x","y","z"] [.num 19,.num 5,.num 32])]),(.tup [.str "fence",.str "F",(.dS ["x","y","z"] [.num 15,.num 0,.num 0])]),(.tup [.str "ecall",.str "E",(.dS ["x","y","z"] [.num 115,.num 0,.num 0])]),(.tup [.str "ebreak",.str "E",(.dS ["x","y","z"] [.num 115,.num 0,.num 8192])]),(.tup [.str "add",.str "R",(.dS ["x","y","z"] [.num 51,.num 0,.num 0])]),(.tup [.str "sub",.str "R",(.dS ["x","y","z"] [.num 51,.num 0,.num 32])]),(.tup [.str "sll",.str "R",(.dS ["x","y","z"] [.num 51,.num 1,.num 0])]),(.tup [.str "slt",.str "R",(.dS ["x","y","z"] [.num 51,.num 2,.num 0])]),(.tup [.str "sltu",.str "R",(.dS ["x","y","z"] [.num 51,.num 3,.num 0])]),(.tup [.str "xor",.str "R",(.dS ["x","y","z"] [.num 51,.num 4,.num 0])]),(.tup [.str "srl",.str "R",(.dS ["x","y","z"] [.num 51,.num 5,.num 0])]),(.tup [.str "sra",.str "R",(.dS ["x","y","z"] [.num 51,.num 5,.num 32])]),(.tup [.str "or",.str "R",(.dS ["x","y","z"] [.num 51,.num 6,.num 0])]),(.tup [.str "and",.str "R",(.dS ["x","y","z"] [.num 51,.num 7,.num 0])]),(.tup [.str "mul",.str "R",(.dS ["x","y","z"] [.num 51,.num 0,.num 1])]),(.tup [.str "mulh",.str "R",(.dS ["x","y","z"] [.num 51,.num 1,.num 1])]),(.tup [.str "mulhsu",.str "R",(.dS ["x","y","z"] [.num 51,.num 2,.num 1])]),(.tup [.str "mulhu",.str "R",(.dS ["x","y","z"] [.num 51,.num 3,.num 1])]),(.tup [.str "div",.str "R",(.dS ["x","y","z"] [.num 51,.num 4,.num 1])]),(.tup [.str "divu",.str "R",(.dS ["x","y","z"] [.num 51,.num 5,.num 1])]),(.tup [.str "rem",.str "R",(.dS ["x","y","z"] [.num 51,.num 6,.num 1])]),(.tup [.str "remu",.str "R",(.dS ["x","y","z"] [.num 51,.num 7,.num 1])])])
def v_BYOP:AV:=(.dI [55,23,111,103,99,3,35,19,15,115,51] [(.lst [.tup [.str "lui",.str "U",.num 127,.num 55]]),(.lst [.tup [.str "auipc",.str "U",.num 127,.num 23]]),(.lst [.tup [.str "jal",.str "J",.num 127,.num 111]]),(.lst [.tup [.str "jalr",.str "I",.num 28799,.num 103]]),(.lst [.tup [.str "beq",.str "B",.num 28799,.num 99],.tup [.str "bne",.str "B",.num 28799,.num 4195],.tup [.str "blt",.str "B",.num 28799,.num 16483],.tup [.str "bge",.str "B",.num 28799,.num 20579],.tup [.str "bltu",.str "B",.num 28799,.num 24675],.tup [.str "bgeu",.str "B",.num 28799,.num 28771]]),(.lst [.tup [.str "lb",.str "I",.num 28799,.num 3],.tup [.str "lh",.str "I",.num 28799,.num 4099],.tup [.str "lw",.str "I",.num 28799,.num 8195],.tup [.str "lbu",.str "I",.num 28799,.num 16387],.tup [.str "lhu",.str "I",.num 28799,.num 20483]]),(.lst [.tup [.str "sb",.str "S",.num 28799,.num 35],.tup [.str "sh",.str "S",.num 28799,.num 4131],.tup [.str "sw",.str "S",.num 28799,.num 8227]]),(.lst [.tup [.str "addi",.str "I",.num 28799,.num 19],.tup [.str "slti",.str "I",.num 28799,.num 8211],.tup [.str "sltiu",.str "I",.num 28799,.num 12307],.tup [.str "xori",.str "I",.num 28799,.num 16403],.tup [.str "ori",.str "I",.num 28799,.num 24595],.tup [.str "andi",.str "I",.num 28799,.num 28691],.tup [.str "slli",.str "H",.num 4261441663,.num 4115],.tup [.str "srli",.str "H",.num 4261441663,.num 20499],.tup [.str "srai",.str "H",.num 4261441663,.num 1073762323]]),(.lst [.tup [.str "fence",.str "F",.num 4027580415,.num 15]]),(.lst [.tup [.str "ecall",.str "E",.num 4294967295,.num 115],.tup [.str "ebreak",.str "E",.num 4294967295,.num 1048691]]),(.lst [.tup [.str "add",.str "R",.num 4261441663,.num 51],.tup [.str "sub",.str "R",.num 4261441663,.num 1073741875],.tup [.str "sll",.str "R",.num 4261441663,.num 4147],.tup [.str "slt",.str "R",.num 4261441663,.num 8243],.tup [.str "sltu",.str "R",.num 4261441663,.num 12339],.tup [.str "xor",.str "R",.num 4261441663,.num 16435],.tup [.str "srl",.str "R",.num 4261441663,.num 20531],.tup [.str "sra",.str "R",.num 4261441663,.num 1073762355],.tup [.str "or",.str "R",.num 4261441663,.num 24627],.tup [.str "and",.str "R",.num 4261441663,.num 28723],.tup [.str "mul",.str "R",.num 4261441663,.num 33554483],.tup [.str "mulh",.str "R",.num 4261441663,.num 33558579],.tup [.str "mulhsu",.str "R",.num 4261441663,.num 33562675],.tup [.str "mulhu",.str "R",.num 4261441663,.num 33566771],.tup [.str "div",.str "R",.num 4261441663,.num 33570867],.tup [.str "divu",.str "R",.num 4261441663,.num 33574963],.tup [.str "rem",.str "R",.num 4261441663,.num 33579059],.tup [.str "remu",.str "R",.num 4261441663,.num 33583155]])])
def v_BR:AV:=(.lst [.tup [.str "z",.num 6],.tup [.str "z",.num 5],.tup [.str "z",.num 4],.tup [.str "z",.num 3],.tup [.str "z",.num 2],.tup [.str "z",.num 1],.tup [.str "z",.num 0],.tup [.str "t",.num 4],.tup [.str "t",.num 3],.tup [.str "t",.num 2],.tup [.str "t",.num 1],.tup [.str "t",.num 0],.tup [.str "s",.num 4],.tup [.str "s",.num 3],.tup [.str "s",.num 2],.tup [.str "s",.num 1],.tup [.str "s",.num 0],.tup [.str "y",.num 2],.tup [.str "y",.num 1],.tup [.str "y",.num 0],.tup [.str "d",.num 4],.tup [.str "d",.num 3],.tup [.str "d",.num 2],.tup [.str "d",.num 1],.tup [.str "d",.num 0],.tup [.str "x",.num 6],.tup [.str "x",.num 5],.tup [.str "x",.num 4],.tup [.str "x",.num 3],.tup [.str "x",.num 2],.tup [.str "x",.num 1],.tup [.str "x",.num 0]])
def v_BI:AV:=(.lst [.tup [.str "i",.num 11],.tup [.str "i",.num 10],.tup [.str "i",.num 9],.tup [.str "i",.num 8],.tup [.str "i",.num 7],.tup [.str "i",.num 6],.tup [.str "i",.num 5],.tup [.str "i",.num 4],.tup [.str "i",.num 3],.tup [.str "i",.num 2],.tup [.str "i",.num 1],.tup [.str "i",.num 0],.tup [.str "s",.num 4],.tup [.str "s",.num 3],.tup [.str "s",.num 2],.tup [.str "s",.num 1],.tup [.str "s",.num 0],.tup [.str "y",.num 2],.tup [.str "y",.num 1],.tup [.str "y",.num 0],.tup [.str "d",.num 4],.tup [.str "d",.num 3],.tup [.str "d",.num 2],.tup [.str "d",.num 1],.tup [.str "d",.num 0],.tup [.str "x",.num 6],.tup [.str "x",.num 5],.tup [.str "x",.num 4],.tup [.str "x",.num 3],.tup [.str "x",.num 2],.tup [.str "x",.num 1],.tup [.str "x",.num 0]])
def v_BH:AV:=(.lst [.tup [.str "z",.num 6],.tup [.str "z",.num 5],.tup [.str "z",.num 4],.tup [.str "z",.num 3],.tup [.str "z",.num 2],.tup [.str "z",.num 1],.tup [.str "z",.num 0],.tup [.str "i",.num 4],.tup [.str "i",.num 3],.tup [.str "i",.num 2],.tup [.str "i",.num 1],.tup [.str "i",.num 0],.tup [.str "s",.num 4],.tup [.str "s",.num 3],.tup [.str "s",.num 2],.tup [.str "s",.num 1],.tup [.str "s",.num 0],.tup [.str "y",.num 2],.tup [.str "y",.num 1],.tup [.str "y",.num 0],.tup [.str "d",.num 4],.tup [.str "d",.num 3],.tup [.str "d",.num 2],.tup [.str "d",.num 1],.tup [.str "d",.num 0],.tup [.str "x",.num 6],.tup [.str "x",.num 5],.tup [.str "x",.num 4],.tup [.str "x",.num 3],.tup [.str "x",.num 2],.tup [.str "x",.num 1],.tup [.str "x",.num 0]])
def v_BS:AV:=(.lst [.tup [.str "i",.num 11],.tup [.str "i",.num 10],.tup [.str "i",.num 9],.tup [.str "i",.num 8],.tup [.str "i",.num 7],.tup [.str "i",.num 6],.tup [.str "i",.num 5],.tup [.str "t",.num 4],.tup [.str "t",.num 3],.tup [.str "t",.num 2],.tup [.str "t",.num 1],.tup [.str "t",.num 0],.tup [.str "s",.num 4],.tup [.str "s",.num 3],.tup [.str "s",.num 2],.tup [.str "s",.num 1],.tup [.str "s",.num 0],.tup [.str "y",.num 2],.tup [.str "y",.num 1],.tup [.str "y",.num 0],.tup [.str "i",.num 4],.tup [.str "i",.num 3],.tup [.str "i",.num 2],.tup [.str "i",.num 1],.tup [.str "i",.num 0],.tup [.str "x",.num 6],.tup [.str "x",.num 5],.tup [.str "x",.num 4],.tup [.str "x",.num 3],.tup [.str "x",.num 2],.tup [.str "x",.num 1],.tup [.str "x",.num 0]])
def v_BB:AV:=(.lst [.tup [.str "i",.num 12],.tup [.str "i",.num 10],.tup [.str "i",.num 9],.tup [.str "i",.num 8],.tup [.str "i",.num 7],.tup [.str "i",.num 6],.tup [.str "i",.num 5],.tup [.str "t",.num 4],.tup [.str "t",.num 3],.tup [.str "t",.num 2],.tup [.str "t",.num 1],.tup [.str "t",.num 0],.tup [.str "s",.num 4],.tup [.str "s",.num 3],.tup [.str "s",.num 2],.tup [.str "s",.num 1],.tup [.str "s",.num 0],.tup [.str "y",.num 2],.tup [.str "y",.num 1],.tup [.str "y",.num 0],.tup [.str "i",.num 4],.tup [.str "i",.num 3],.tup [.str "i",.num 2],.tup [.str "i",.num 1],.tup [.str "i",.num 11],.tup [.str "x",.num 6],.tup [.str "x",.num 5],.tup [.str "x",.num 4],.tup [.str "x",.num 3],.tup [.str "x",.num 2],.tup [.str "x",.num 1],.tup [.str "x",.num 0]])
def v_BU:AV:=(.lst [.tup [.str "i",.num 19],.tup [.str "i",.num 18],.tup [.str "i",.num 17],.tup [.str "i",.num 16],.tup [.str "i",.num 15],.tup [.str "i",.num 14],.tup [.str "i",.num 13],.tup [.str "i",.num 12],.tup [.str "i",.num 11],.tup [.str "i",.num 10],.tup [.str "i",.num 9],.tup [.str "i",.num 8],.tup [.str "i",.num 7],.tup [.str "i",.num 6],.tup [.str "i",.num 5],.tup [.str "i",.num 4],.tup [.str "i",.num 3],.tup [.str "i",.num 2],.tup [.str "i",.num 1],.tup [.str "i",.num 0],.tup [.str "d",.num 4],.tup [.str "d",.num 3],.tup [.str "d",.num 2],.tup [.str "d",.num 1],.tup [.str "d",.num 0],.tup [.str "x",.num 6],.tup [.str "x",.num 5],.tup [.str "x",.num 4],.tup [.str "x",.num 3],.tup [.str "x",.num 2],.tup [.str "x",.num 1],.tup [.str "x",.num 0]])
def v_BJ:AV:=(.lst [.tup [.str "i",.num 20],.tup [.str "i",.num 10],.tup [.str "i",.num 9],.tup [.str "i",.num 8],.tup [.str "i",.num 7],.tup [.str "i",.num 6],.tup [.str "i",.num 5],.tup [.str "i",.num 4],.tup [.str "i",.num 3],.tup [.str "i",.num 2],.tup [.str "i",.num 1],.tup [.str "i",.num 11],.tup [.str "i",.num 19],.tup [.str "i",.num 18],.tup [.str "i",.num 17],.tup [.str "i",.num 16],.tup [.str "i",.num 15],.tup [.str "i",.num 14],.tup [.str "i",.num 13],.tup [.str "i",.num 12],.tup [.str "d",.num 4],.tup [.str "d",.num 3],.tup [.str "d",.num 2],.tup [.str "d",.num 1],.tup [.str "d",.num 0],.tup [.str "x",.num 6],.tup [.str "x",.num 5],.tup [.str "x",.num 4],.tup [.str "x",.num 3],.tup [.str "x",.num 2],.tup [.str "x",.num 1],.tup [.str "x",.num 0]])
def v_BF:AV:=(.lst [.tup [.str "z",.num 13],.tup [.str "z",.num 12],.tup [.str "z",.num 11],.tup [.str "z",.num 10],.tup [.str "i",.num 7],.tup [.str "i",.num 6],.tup [.str "i",.num 5],.tup [.str "i",.num 4],.tup [.str "i",.num 3],.tup [.str "i",.num 2],.tup [.str "i",.num 1],.tup [.str "i",.num 0],.tup [.str "z",.num 9],.tup [.str "z",.num 8],.tup [.str "z",.num 7],.tup [.str "z",.num 6],.tup [.str "z",.num 5],.tup [.str "y",.num 2],.tup [.str "y",.num 1],.tup [.str "y",.num 0],.tup [.str "z",.num 4],.tup [.str "z",.num 3],.tup [.str "z",.num 2],.tup [.str "z",.num 1],.tup [.str "z",.num 0],.tup [.str "x",.num 6],.tup [.str "x",.num 5],.tup [.str "x",.num 4],.tup [.str "x",.num 3],.tup [.str "x",.num 2],.tup [.str "x",.num 1],.tup [.str "x",.num 0]])
def v_BE:AV:=(.lst [.tup [.str "z",.num 24],.tup [.str "z",.num 23],.tup [.str "z",.num 22],.tup [.str "z",.num 21],.tup [.str "z",.num 20],.tup [.str "z",.num 19],.tup [.str "z",.num 18],.tup [.str "z",.num 17],.tup [.str "z",.num 16],.tup [.str "z",.num 15],.tup [.str "z",.num 14],.tup [.str "z",.num 13],.tup [.str "z",.num 12],.tup [.str "z",.num 11],.tup [.str "z",.num 10],.tup [.str "z",.num 9],.tup [.str "z",.num 8],.tup [.str "z",.num 7],.tup [.str "z",.num 6],.tup [.str "z",.num 5],.tup [.str "z",.num 4],.tup [.str "z",.num 3],.tup [.str "z",.num 2],.tup [.str "z",.num 1],.tup [.str "z",.num 0],.tup [.str "x",.num 6],.tup [.str "x",.num 5],.tup [.str "x",.num 4],.tup [.str "x",.num 3],.tup [.str "x",.num 2],.tup [.str "x",.num 1],.tup [.str "x",.num 0]])
end Mine
end
section
namespace Mine
def combO (o₁ o₂:Option SL):Option SL:=match o₁ with
 | none=>o₂
 | some sl₁=>some (o₂.getD sl₁)
theorem combO_getD (o₁ o₂:Option SL) (sl:SL):(combO o₁ o₂).getD sl=o₂.getD (o₁.getD sl):=by
 cases o₁<;>rfl
theorem seqE_holds {x:RE} {sl:SL} {k:AV→SL→RE} {P:Option SL×AV→Prop} {X:Prop} (h:(seqE x sl k).Holds P X) :
  x.Holds (fun p=>(k p.2 (p.1.getD sl)).Holds (fun q=>P (combO p.1 q.1,q.2)) X) X:=by
 refine R.holds_mono (fun p hp=>?_) id (R.holds_bind h)
 obtain ⟨o,v⟩:=p
 cases o with
 | none=>exact hp
 | some sl₁=>exact R.holds_bind hp
theorem seqL_holds {x:RE} {sl:SL} {k:AV→SL→RL} {P:Option SL×List AV→Prop} {X:Prop} (h:(seqL x sl k).Holds P X) :
  x.Holds (fun p=>(k p.2 (p.1.getD sl)).Holds (fun q=>P (combO p.1 q.1,q.2)) X) X:=by
 refine R.holds_mono (fun p hp=>?_) id (R.holds_bind h)
 obtain ⟨o,v⟩:=p
 cases o with
 | none=>exact hp
 | some sl₁=>exact R.holds_bind hp
theorem seqLE_holds {x:RL} {sl:SL} {k:List AV→SL→RE} {P:Option SL×AV→Prop} {X:Prop} (h:(seqLE x sl k).Holds P X) :
  x.Holds (fun p=>(k p.2 (p.1.getD sl)).Holds (fun q=>P (combO p.1 q.1,q.2)) X) X:=by
 refine R.holds_mono (fun p hp=>?_) id (R.holds_bind h)
 obtain ⟨o,v⟩:=p
 cases o with
 | none=>exact hp
 | some sl₁=>exact R.holds_bind hp
structure FrmOK (F:Frm) (A:Around):Prop where
 kind:F.env.scope.kind=.function
 glob:F.env.globals=mainGlobals
 blt:F.env.builtins=builtinsNs
 frames:∃ l,A.frames=some l∧∀ e∈l,e.scope.kind≠.module∧∃ L,e.frame=some L∧(F.fr L∨L=F.env.locals)
structure Room (A:Around) (d:Nat):Prop where
 depth:A.depth+d<recursionLimit
 units:A.units+100*d+200<cLine
 hand:A.handled=none
structure Past (F:Frm) (sl:SL) (ρ:List Addr) (s s':Shared):Prop where
 keep:∀ a o,s.heap.get? a=some o→¬ Mut F sl ρ a→Kept F.fr s'.heap a o
 gens:s'.gens=s.gens
 drawn:s'.drawn=s.drawn
 os:s'.os=s.os
 live:∀ a o,s.heap.get? a=some o→∃ o',s'.heap.get? a=some o'
def ExcThing (e:Value) (h:Heap) (a:Addr):Prop:=e=.ref a∨∃ x o vs,e=.ref x∧h.get? x=some o∧o.data=.fields vs∧vs[1]?=some (.ref a)
theorem Evo.past {F:Frm} {sl sl₁:SL} {ρ ρ₁:List Addr} {s s₁ s':Shared} (x:Evo F sl ρ s sl₁ ρ₁ s₁) (y:Past F sl₁ ρ₁ s₁ s'):Past F sl ρ s s':=
 ⟨fun a o e hm=>(x.keep a o e hm).trans fun o' e'=>y.keep a o' e' fun q=>(x.mu a q).elim hm fun z=>(nomatch z.symm.trans e),y.gens.trans x.gens,y.drawn.trans x.drawn,y.os.trans x.os,fun a o e=>let ⟨o',e'⟩:=x.live a o e; y.live a o' e'⟩
def OnExc (_:Program) (_:World) (EO:Value→Shared→Prop) (F:Frm) (sl:SL) (ρ:List Addr) (s:Shared) (X:Prop) (E:Value→Shared→Prop):Prop:=
 X→∀ e s',Past F sl ρ s s'→(∀ a,ExcThing e s'.heap a→s.heap.get? a=none)→EO e s'→E e s'
section
variable (prog:Program) (w:World) (EO:Value→Shared→Prop)
def QE (F:Frm) (env:AEnv) (sl:SL) (ρ:List Addr) (s:Shared) (P:Option SL×AV→Prop) (v:Value) (s':Shared):Prop:=
 ∃ o av ρ',Inv prog w F env (o.getD sl) ρ' s'∧Has prog w (Vw F (o.getD sl) ρ' s'.heap) ρ' av v∧Evo F sl ρ s (o.getD sl) ρ' s'∧P (o,av)
def QL (F:Frm) (env:AEnv) (sl:SL) (ρ:List Addr) (s:Shared) (P:Option SL×List AV→Prop) (v:List Value) (s':Shared):Prop:=
 ∃ o av ρ',Inv prog w F env (o.getD sl) ρ' s'∧HasL prog w (Vw F (o.getD sl) ρ' s'.heap) ρ' av v∧Evo F sl ρ s (o.getD sl) ρ' s'∧P (o,av)
def Tri (F:Frm) (env:AEnv) (sl:SL) (ρ:List Addr) (s:Shared) (A:Around) (x:RE) (t:Sem Value):Prop:=
 ∀ (P:Option SL×AV→Prop) (X:Prop) (Q E:Value→Shared→Prop),x.Holds P X→(∀ v s',QE prog w F env sl ρ s P v s'→Q v s')→OnExc prog w EO F sl ρ s X E→wpAny (model prog w) A t Q E s
def TriL (F:Frm) (env:AEnv) (sl:SL) (ρ:List Addr) (s:Shared) (A:Around) (x:RL) (t:Sem (List Value)):Prop:=
 ∀ (P:Option SL×List AV→Prop) (X:Prop) (Q:List Value→Shared→Prop) (E:Value→Shared→Prop),x.Holds P X→(∀ v s',QL prog w F env sl ρ s P v s'→Q v s')→OnExc prog w EO F sl ρ s X E→wpAny (model prog w) A t Q E s
end
variable {prog:Program} {w:World} {EO:Value→Shared→Prop} {F:Frm} {env:AEnv} {sl:SL} {ρ:List Addr} {s:Shared} {A:Around}
theorem OnExc.after {sl₁:SL} {ρ₁:List Addr} {s₁:Shared} {X:Prop} {E:Value→Shared→Prop} (h:OnExc prog w EO F sl ρ s X E) (x:Evo F sl ρ s sl₁ ρ₁ s₁):OnExc prog w EO F sl₁ ρ₁ s₁ X E:=
 fun hX e s' y f z=>h hX e s' (x.past y) (fun a ha=>by
  cases q:s.heap.get? a with
  | none=>rfl
  | some o=>
   obtain ⟨o',q'⟩:=x.live a o q
   rw [f a ha] at q'; exact nomatch q') z
theorem Tri.seq {x:RE} {k:AV→SL→RE} {t:Sem Value} {u:Value→Sem Value} (hx:Tri prog w EO F env sl ρ s A x t)
  (hk:∀ v av sl₁ ρ₁ s₁,Inv prog w F env sl₁ ρ₁ s₁→Has prog w (Vw F sl₁ ρ₁ s₁.heap) ρ₁ av v→Evo F sl ρ s sl₁ ρ₁ s₁→Tri prog w EO F env sl₁ ρ₁ s₁ A (k av sl₁) (u v))
  {P:Option SL×AV→Prop} {X:Prop} {Q E:Value→Shared→Prop} (h:(seqE x sl k).Holds P X) (hQ:∀ v s',QE prog w F env sl ρ s P v s'→Q v s') (hE:OnExc prog w EO F sl ρ s X E) :
  wpAny (model prog w) A t (fun v s₁=>wpAny (model prog w) A (u v) Q E s₁) E s:=by
 refine hx _ X _ _ (seqE_holds h) (fun v s₁ h₁=>?_) hE
 obtain ⟨o,av,ρ₁,I,hv,ev,hp⟩:=h₁
 refine hk v av _ ρ₁ s₁ I hv ev _ X _ _ hp (fun v' s₂ h₂=>hQ v' s₂ ?_) (hE.after ev)
 obtain ⟨o₂,av₂,ρ₂,I₂,hv₂,ev₂,hp₂⟩:=h₂
 refine ⟨combO o o₂,av₂,ρ₂,?_,?_,?_,hp₂⟩<;>rw [combO_getD]
 ·exact I₂
 ·exact hv₂
 ·exact ev.trans ev₂
theorem TriL.seqLE {x:RL} {k:List AV→SL→RE} {t:Sem (List Value)} {u:List Value→Sem Value} (hx:TriL prog w EO F env sl ρ s A x t)
  (hk:∀ v av sl₁ ρ₁ s₁,Inv prog w F env sl₁ ρ₁ s₁→HasL prog w (Vw F sl₁ ρ₁ s₁.heap) ρ₁ av v→Evo F sl ρ s sl₁ ρ₁ s₁→Tri prog w EO F env sl₁ ρ₁ s₁ A (k av sl₁) (u v))
  {P:Option SL×AV→Prop} {X:Prop} {Q E:Value→Shared→Prop} (h:(seqLE x sl k).Holds P X) (hQ:∀ v s',QE prog w F env sl ρ s P v s'→Q v s') (hE:OnExc prog w EO F sl ρ s X E) :
  wpAny (model prog w) A t (fun v s₁=>wpAny (model prog w) A (u v) Q E s₁) E s:=by
 refine hx _ X _ _ (seqLE_holds h) (fun v s₁ h₁=>?_) hE
 obtain ⟨o,av,ρ₁,I,hv,ev,hp⟩:=h₁
 refine hk v av _ ρ₁ s₁ I hv ev _ X _ _ hp (fun v' s₂ h₂=>hQ v' s₂ ?_) (hE.after ev)
 obtain ⟨o₂,av₂,ρ₂,I₂,hv₂,ev₂,hp₂⟩:=h₂
 refine ⟨combO o o₂,av₂,ρ₂,?_,?_,?_,hp₂⟩<;>rw [combO_getD]
 ·exact I₂
 ·exact hv₂
 ·exact ev.trans ev₂
theorem Tri.seqL {x:RE} {k:AV→SL→RL} {t:Sem Value} {u:Value→Sem (List Value)} (hx:Tri prog w EO F env sl ρ s A x t)
  (hk:∀ v av sl₁ ρ₁ s₁,Inv prog w F env sl₁ ρ₁ s₁→Has prog w (Vw F sl₁ ρ₁ s₁.heap) ρ₁ av v→Evo F sl ρ s sl₁ ρ₁ s₁→TriL prog w EO F env sl₁ ρ₁ s₁ A (k av sl₁) (u v))
  {P:Option SL×List AV→Prop} {X:Prop} {Q:List Value→Shared→Prop} {E:Value→Shared→Prop} (h:(seqL x sl k).Holds P X) (hQ:∀ v s',QL prog w F env sl ρ s P v s'→Q v s') (hE:OnExc prog w EO F sl ρ s X E) :
  wpAny (model prog w) A t (fun v s₁=>wpAny (model prog w) A (u v) Q E s₁) E s:=by
 refine hx _ X _ _ (seqL_holds h) (fun v s₁ h₁=>?_) hE
 obtain ⟨o,av,ρ₁,I,hv,ev,hp⟩:=h₁
 refine hk v av _ ρ₁ s₁ I hv ev _ X _ _ hp (fun v' s₂ h₂=>hQ v' s₂ ?_) (hE.after ev)
 obtain ⟨o₂,av₂,ρ₂,I₂,hv₂,ev₂,hp₂⟩:=h₂
 refine ⟨combO o o₂,av₂,ρ₂,?_,?_,?_,hp₂⟩<;>rw [combO_getD]
 ·exact I₂
 ·exact hv₂
 ·exact ev.trans ev₂
theorem qe_calm {s':Shared} {P:Option SL×AV→Prop} {av:AV} {v:Value} (I:Inv prog w F env sl ρ s) (x:Calm F sl ρ s s') (hv:Has prog w (Vw F sl ρ s'.heap) ρ av v) (h:P (none,av)):QE prog w F env sl ρ s P v s':=
 ⟨none,av,ρ,I.calm x,hv,x.evo,h⟩
theorem pureE_holds {x:R AV} {P:Option SL×AV→Prop} {X:Prop} (h:(pureE x).Holds P X):x.Holds (fun v=>P (none,v)) X:=R.holds_bind h
theorem Tri.pure {x:R AV} {t:Sem Value} (h:∀ (P:AV→Prop) (Q E:Value→Shared→Prop),x.Holds P False→(∀ v s' av,Calm F sl ρ s s'→Has prog w (Vw F sl ρ s'.heap) ρ av v→P av→Q v s')→wpAny (model prog w) A t Q E s)
  (hx:∀ P X,x.Holds P X→x.Holds P False) (I:Inv prog w F env sl ρ s):Tri prog w EO F env sl ρ s A (pureE x) t:=
 fun _ _ _ _ hh hQ _=>h _ _ _ (hx _ _ (pureE_holds hh)) fun v s' _ c hv hp=>hQ v s' (qe_calm I c hv hp)
def NoExc {α:Type}:R α→Prop
 | .ret _=>True
 | .ite _ x y=>NoExc x∧NoExc y
 | .need _ x=>NoExc x
 | .exc=>False
 | .fail=>True
theorem NoExc.holds {α:Type} {P:α→Prop} {X:Prop}:∀ {x:R α},NoExc x→x.Holds P X→x.Holds P False
 | .ret _,_,h=>h
 | .ite _ _ _,n,⟨h1,h2⟩=>⟨fun e=>n.1.holds (h1 e),fun e=>n.2.holds (h2 e)⟩
 | .need _ x,n,⟨h1,h2⟩=>⟨h1,NoExc.holds (x:=x) n h2⟩
 | .exc,n,_=>n.elim
 | .fail,_,h=>h
end Mine
end
section
namespace Mine
variable {prog:Program} {w:World} {EO:Value→Shared→Prop} {F:Frm} {env:AEnv} {sl:SL} {ρ:List Addr} {s:Shared} {A:Around}
theorem intOf_has {V:Vis} {a:AV} {v:Value} {i:Int} {b:Bool} (h:intOf a=some (i,b)) (hv:Has prog w V ρ a v):∃ t,v=.int i t:=by
 cases a<;>simp only [intOf,Option.some.injEq,Prod.mk.injEq,reduceCtorEq] at h
 ·obtain ⟨rfl,_⟩:=h; exact hv
 ·obtain ⟨rfl,_⟩:=h; exact hv
theorem has_mkI {V:Vis} (i:Int) (b:Bool) (t:Tok):Has prog w V ρ (mkI i b) (.int i t):=by
 cases b<;>exact ⟨t,rfl⟩
theorem boolOf_has {V:Vis} {a:AV} {v:Value} {i:Bool} {b:Bool} (h:boolOf a=some (i,b)) (hv:Has prog w V ρ a v):v=.bool i:=by
 cases a<;>simp only [boolOf,Option.some.injEq,Prod.mk.injEq,reduceCtorEq] at h
 ·obtain ⟨rfl,_⟩:=h; exact hv
 ·obtain ⟨rfl,_⟩:=h; exact hv
theorem has_mkB {V:Vis} (i:Bool) (b:Bool):Has prog w V ρ (mkB i b) (.bool i):=by
 cases b<;>rfl
theorem ask_holds {s:Bool} {p:Prop} [Decidable p] {x:R AV} {P:AV→Prop} {X:Prop} (h:(ask s p x).Holds P X):p∧x.Holds P X:=by
 cases s with
 | true=>exact h
 | false=>
  by_cases hp:p
  ·unfold ask at h; simp only [decide_eq_true hp] at h; exact ⟨hp,h⟩
  ·unfold ask at h; simp only [decide_eq_false hp] at h; exact h.elim
theorem guardB_holds {α:Type} {b:Bool} {x:R α} {P:α→Prop} {X:Prop} (h:(guardB b x).Holds P X):b=true∧x.Holds P X:=by
 cases b with
 | true=>exact ⟨rfl,h⟩
 | false=>exact h.elim
theorem blt_lt {m n:Nat} (h:Nat.blt m n=true):m<n:=Nat.le_of_ble_eq_true h
theorem size_line {n:Nat} (h:n<16777216):n≤sizeLine:=by rw [sizeLine_eq]; omega
abbrev LeafP (F:Frm) (sl:SL) (ρ:List Addr) (s:Shared) (P:AV→Prop) (Q:Value→Shared→Prop):Prop:=
 ∀ v s' av,Calm F sl ρ s s'→Has prog w (Vw F sl ρ s'.heap) ρ av v→P av→Q v s'
theorem binA_int {op:Operator} {i j:Int} {b c:Bool} {t u:Tok} {P:AV→Prop} {Q E:Value→Shared→Prop}
  (h:((match op with
   | .Add=>.ret (mkI (i+j) (b||c))
   | .Sub=>.ret (mkI (i - j) (b||c))
   | .Mult=>ask b (i.natAbs<2 ^ 64) (ask c (j.natAbs<2 ^ 64) (.ret (mkI (i*j) (b||c))))
   | .FloorDiv=>ask c (j≠0∧j.natAbs<2 ^ 128) (.ret (mkI (i.fdiv j) (b||c)))
   | .Mod=>ask c (j≠0) (.ret (mkI (i.fmod j) (b||c)))
   | .LShift=>ask c (0≤j∧j≤1000000) (ask b (i.natAbs<2 ^ 64) (.ret (mkI (i*2 ^ j.toNat) (b||c))))
   | .RShift=>ask c (0≤j) (.ret (mkI (i.fdiv (2 ^ j.toNat)) (b||c)))
   | .BitAnd=>.ret (mkI (Builtin.bitAnd i j) (b||c))
   | .BitOr=>.ret (mkI (Builtin.bitOr i j) (b||c))
   | .BitXor=>.ret (mkI (Builtin.bitXor i j) (b||c))
   | _=>.fail):R AV).Holds P False) (hQ:LeafP (prog:=prog) (w:=w) F sl ρ s P Q):wpAny (model prog w) A (binaryOp op (.int i t) (.int j u)) Q E s:=by
 cases op<;>try exact h.elim
 ·exact PyProof.Rows.add_int (hQ _ _ _ (.tok _) (has_mkI _ _ _) h)
 ·exact PyProof.Rows.sub_int' (hQ _ _ _ (.tok _) (has_mkI _ _ _) h)
 ·obtain ⟨h1,h⟩:=ask_holds h
  obtain ⟨h2,h⟩:=ask_holds h
  exact PyProof.Rows.mul_int (hQ _ _ _ (.tok _) (has_mkI _ _ _) h) (.of_left (intBits_le_64 (by omega) (by omega)))
 ·obtain ⟨h1,h⟩:=ask_holds h
  exact PyProof.Rows.mod_int' h1 (hQ _ _ _ (.tok _) (has_mkI _ _ _) h)
 ·obtain ⟨h1,h⟩:=ask_holds h
  obtain ⟨h2,h⟩:=ask_holds h
  exact PyProof.Rows.lshift_int_small h1.1 h1.2 h2 (hQ _ _ _ (.tok _) (has_mkI _ _ _) h)
 ·obtain ⟨h1,h⟩:=ask_holds h
  exact PyProof.Rows.rshift_int h1 (hQ _ _ _ (.tok _) (has_mkI _ _ _) h)
 ·exact PyProof.Rows.or_int (hQ _ _ _ (.tok _) (has_mkI _ _ _) h)
 ·exact PyProof.Rows.xor_int (hQ _ _ _ (.tok _) (has_mkI _ _ _) h)
 ·exact PyProof.Rows.and_int (hQ _ _ _ (.tok _) (has_mkI _ _ _) h)
 ·obtain ⟨h1,h⟩:=ask_holds h
  refine PyProof.Rows.floordiv_int h1.1 (hQ _ _ _ (.tok _) (has_mkI _ _ _) h) (.inl (PyProof.noPylong_of_log2 ?_))
  have h2:=h1.2
  by_cases h0:j.natAbs=0
  ·rw [h0]; decide +kernel
  ·have:j.natAbs.log2<128:=(Nat.log2_lt h0).mpr h2
   omega
theorem binA_sound {op:Operator} {a b:AV} {x y:Value} (I:Inv prog w F env sl ρ s) (hx:Has prog w (Vw F sl ρ s.heap) ρ a x) (hy:Has prog w (Vw F sl ρ s.heap) ρ b y) {P:AV→Prop} {Q E:Value→Shared→Prop}
  (h:(binA op a b).Holds P False) (hQ:LeafP (prog:=prog) (w:=w) F sl ρ s P Q):wpAny (model prog w) A (binaryOp op x y) Q E s:=by
 unfold binA at h
 split at h
 ·obtain ⟨t,rfl⟩:=hx
  obtain ⟨u,rfl⟩:=hy
  rename_i p q
  exact PyProof.Rows.add_str (fun t' tk=>hQ _ _ (.str (p++q)) (.tok _) ⟨_,rfl⟩ h.2) (by rw [sizeLine_eq]; exact h.1)
 ·obtain ⟨a,vs,n,rfl,hv,hl⟩:=hx
  obtain ⟨b,us,m,rfl,hu,hm⟩:=hy
  obtain ⟨hz,h⟩:=guardB_holds h
  have e1:=hl.length
  have e2:=hm.length
  refine PySem.P.add_list (items:=vs.toArray) (items2:=us.toArray) (n:=n) (n2:=m) hv.1 hu.1 ?_ ?_
  ·have C:Calm F sl ρ s { s with heap:=s.heap.push { cls:=.type "list",data:=.seq (vs.toArray++us.toArray) } }:=.push _ _
   refine hQ _ _ (.lst (_++_)) C ⟨s.heap.objs.size,vs++us,0,rfl,?_,?_⟩ h
   ·have e:(⟨.type "list",none,.seq (vs.toArray++us.toArray) 0,#[]⟩:Obj)=lstO (vs++us) 0:=by simp [lstO]
    rw [← e]
    exact vis_new I (get_size _) (Heap.get?_push_size _ rfl)
   ·exact (C.evo.hasL hl).append (C.evo.hasL hm)
  ·have:=blt_lt hz
   rw [sizeLine_eq]; simp only [List.size_toArray]; omega
 ·split at h
  ·rename_i i b₁ j b₂ e1 e2
   obtain ⟨t,rfl⟩:=intOf_has e1 hx
   obtain ⟨u,rfl⟩:=intOf_has e2 hy
   exact binA_int h hQ
  ·exact h.elim
theorem unA_sound {op:UnaryOp} {a:AV} {x:Value} (hx:Has prog w (Vw F sl ρ s.heap) ρ a x) {P:AV→Prop} {Q E:Value→Shared→Prop}
  (h:(unA op a).Holds P False) (hQ:LeafP (prog:=prog) (w:=w) F sl ρ s P Q):wpAny (model prog w) A (unaryOp op x) Q E s:=by
 unfold unA at h
 split at h
 ·split at h
  ·rename_i i b e
   rw [boolOf_has e hx]
   exact not_value (wpAny_truthy_bool (hQ _ _ _ (.tok s.toks) (has_mkB _ _) h))
  ·exact h.elim
 ·split at h
  ·rename_i i b e
   obtain ⟨t,rfl⟩:=intOf_has e hx
   exact PyProof.Rows.neg_int (hQ _ _ _ (.tok _) (has_mkI _ _ _) h)
  ·exact h.elim
 ·split at h
  ·rename_i i b e
   obtain ⟨t,rfl⟩:=intOf_has e hx
   exact PyProof.Rows.invert_int (hQ _ _ _ (.tok _) (has_mkI _ _ _) h)
  ·exact h.elim
 ·exact h.elim
end Mine
end
section
open PySem.SeqAt
open PySem.AutoSeq1 (wpAny_loadPart')
namespace Mine
section
variable {prog:Program} {w:World} {ρ:List Addr} {V:Vis}
theorem und_has:∀ (x:AV) {v:Value},Has prog w V ρ x v→Has prog w V ρ (und x) v
 | .ite true x _,_,h=>by simp only [und]; exact und_has x (h.1 rfl)
 | .ite false _ y,_,h=>by simp only [und]; exact und_has y (h.2 rfl)
 | .none,_,h=>h
 | .bool _,_,h=>h
 | .sb _,_,h=>h
 | .num _,_,h=>h
 | .sym _,_,h=>h
 | .str _,_,h=>h
 | .ints _,_,h=>h
 | .tup _,_,h=>h
 | .lst _,_,h=>h
 | .dS _ _,_,h=>h
 | .dI _ _,_,h=>h
 | .rng _ _ _,_,h=>h
 | .loc _,_,h=>h
structure Eqs (A:Around) (s:Shared) (v u:Value) (b:Bool):Prop where
 eq:EqAt A s v u b
 rc:RcAt A s v u b
 ne:RcNeAt A s v u (!b)
 same:v=u→b=true
theorem Eqs.none (A:Around) (s:Shared):Eqs A s .none .none true:=⟨.same _,.none_none,.none_none,fun _=>rfl⟩
theorem Eqs.bool (A:Around) (s:Shared) (a b:Bool):Eqs A s (.bool a) (.bool b) (a==b):=⟨.bool_bool _ _,.bool_bool _ _,.bool_bool _ _,fun e=>by injection e with e; subst e; simp⟩
theorem Eqs.int (A:Around) (s:Shared) (a b:Int) (t u:Tok):Eqs A s (.int a t) (.int b u) (a==b):=⟨.int_int _ _ _ _,.int_int _ _ _ _,.int_int _ _ _ _,fun e=>by injection e with e; subst e; simp⟩
theorem Eqs.str (A:Around) (s:Shared) (a b:Str) (t u:Tok):Eqs A s (.str a t) (.str b u) (a==b):=⟨.str_str _ _ _ _,.str_str _ _ _ _,.str_str _ _ _ _,fun e=>by injection e with e; subst e; simp⟩
theorem eqF_at {x y:AV} {v u:Value} {b:Bool} (h:eqF x y=some b) (hv:Has prog w V ρ x v) (hu:Has prog w V ρ y u) (A:Around) (s:Shared):Eqs A s v u b:=by
 cases x<;>cases y<;>simp only [eqF,Option.some.injEq,reduceCtorEq] at h<;>subst h
 ·rw [show v=_ from hv,show u=_ from hu]; exact .none A s
 ·rw [show v=_ from hv,show u=_ from hu]; exact .bool A s _ _
 ·rw [show v=_ from hv,show u=_ from hu]; exact .bool A s _ _
 ·rw [show v=_ from hv,show u=_ from hu]; exact .bool A s _ _
 ·rw [show v=_ from hv,show u=_ from hu]; exact .bool A s _ _
 ·obtain ⟨_,rfl⟩:=hv; obtain ⟨_,rfl⟩:=hu; exact .int A s _ _ _ _
 ·obtain ⟨_,rfl⟩:=hv; obtain ⟨_,rfl⟩:=hu; exact .int A s _ _ _ _
 ·obtain ⟨_,rfl⟩:=hv; obtain ⟨_,rfl⟩:=hu; exact .int A s _ _ _ _
 ·obtain ⟨_,rfl⟩:=hv; obtain ⟨_,rfl⟩:=hu; exact .int A s _ _ _ _
 ·obtain ⟨_,rfl⟩:=hv; obtain ⟨_,rfl⟩:=hu; exact .str A s _ _ _ _
inductive All2 (A:Around) (s:Shared):List Value→List Value→Bool→Prop
 | nil:All2 A s [] [] true
 | cons {v u:Value} {l m:List Value} {b c:Bool}:Eqs A s v u b→All2 A s l m c→All2 A s (v :: l) (u :: m) (b&&c)
theorem eqFL_at (A:Around) (s:Shared):∀ {l m:List AV} {vs us:List Value} {b:Bool},eqFL l m=some b→HasL prog w V ρ l vs→HasL prog w V ρ m us→All2 A s vs us b
 | [],[],_,_,_,h,hv,hu=>by
  have h:some true=some _:=h
  injection h with h; subst h
  rw [show _=[] from hv,show _=[] from hu]; exact .nil
 | [],_ :: _,_,_,_,h,_,_=>nomatch h
 | _ :: _,[],_,_,_,h,_,_=>nomatch h
 | x :: l,y :: r,_,_,_,h,⟨v,vs,e,h1,h2⟩,⟨u,us,e',k1,k2⟩=>by
  simp only [eqFL] at h
  split at h
  ·rename_i b c hb hc
   injection h with h
   subst h e e'
   exact .cons (eqF_at hb (und_has _ h1) (und_has _ k1) A s) (eqFL_at A s hc h2 k2)
  ·exact nomatch h
theorem All2.fn {A:Around} {s:Shared} {vs us:List Value} {b:Bool} (h:All2 A s vs us b):∃ e:Nat→Bool,vs.length=us.length∧(∀ j (h1:j<vs.length) (h2:j<us.length),EqAt A s vs[j] us[j] (e j))∧(List.range vs.length).all e=b:=by
 induction h with
 | nil=>exact ⟨fun _=>true,rfl,fun j h1=>absurd h1 (Nat.not_lt_zero _),rfl⟩
 | @cons v u l m b c h1 _ ih=>
  obtain ⟨e,n,k,hr⟩:=ih
  refine ⟨fun j=>match j with | 0=>b | j+1=>e j,by simp [n],fun j k1 k2=>?_,?_⟩
  ·cases j with
   | zero=>exact h1.eq
   | succ j=>exact k j (by simpa using k1) (by simpa using k2)
  ·rw [List.length_cons,List.range_succ_eq_map,List.all_cons,List.all_map,← hr]
   rfl
def EqW (prog:Program) (w:World) (A:Around) (s:Shared) (y x:Value) (b:Bool):Prop:=
 ∀ (E:Value→Shared→Prop) (Q:Bool→Shared→Prop),Q b s→wpAny (model prog w) A (eqBool y x) Q E s
theorem valueAt_split {K:Type} [DecidableEq K] (k:K) (v:Value):∀ (pre rest:List (K×Value)),k ∉ pre.map (·.1)→valueAt (pre++(k,v) :: rest) k=some v
 | [],rest,_=>by simp [valueAt]
 | (j,u) :: pre,rest,h=>by
  have h1:¬ j=k:=fun e=>h (by simp [e])
  have h2:=valueAt_split k v pre rest fun q=>h (by simp [q])
  simp only [valueAt,List.cons_append,List.find?_cons,decide_eq_false h1] at h2 ⊢
  exact h2
theorem hits_of_all2 {A:Around} {s:Shared}:∀ {ks:List Str} {vs us:List Value} {b:Bool} (pre:List (Str×Value)),All2 A s vs us b→ks.length=vs.length→(pre.map (·.1)++ks).Nodup→KeqHits A s (pre++ks.zip us) (ks.zip vs) b
 | [],_,_,_,pre,h,hl,_=>by
  cases h with
  | nil=>exact .nil
  | cons _ _=>exact nomatch hl
 | k :: ks,_,_,_,pre,h,hl,hn=>by
  cases h with
  | nil=>exact nomatch hl
  | @cons v u l m b c h1 h2=>
   have hk:k ∉ pre.map (·.1):=fun q=>by
    have:=List.nodup_append.mp hn
    exact this.2.2 k q k (by simp) rfl
   have e:pre++(k :: ks).zip (u :: m)=(pre++[(k,u)])++ks.zip m:=by simp
   refine .hit (y:=u) ?_ h1.eq ?_
   ·rw [List.zip_cons_cons]; exact valueAt_split k u pre _ hk
   ·rw [e]
    refine hits_of_all2 (pre++[(k,u)]) h2 (by simpa using hl) ?_
    simpa using hn
theorem pairs_vals {K:Type} [DecidableEq K] {knd:KeyKind prog w K}:∀ {es:List DictEntry} {kv kv':List (K×Value)},Pairs knd es kv→Pairs knd es kv'→kv=kv'
 | _,_,_,.nil,.nil=>rfl
 | _,_,_,.cons (kv:=(k,v)) h1 h2 h3,.cons (kv:=(j,u)) k1 k2 k3=>by
  have e1:k=j:=knd.inj _ _ _ h1 k1
  have e2:v=u:=h2.symm.trans k2
  rw [e1,e2,pairs_vals h3 k3]
theorem isDictOf_vals {K:Type} [DecidableEq K] {knd:KeyKind prog w K} {o:Obj} {kv kv':List (K×Value)} (h:o.IsDictOf knd kv) (k:o.IsDictOf knd kv'):kv=kv':=by
 obtain ⟨es,ep,_,h1,_,h2,_⟩:=h
 obtain ⟨es',ep',_,k1,_,k2,_⟩:=k
 rw [h1] at k1
 injection k1 with e _
 subst e
 exact pairs_vals h2 k2
theorem All2.same {A:Around} {s:Shared} {vs us:List Value} {b:Bool} (h:All2 A s vs us b) (e:vs=us):b=true:=by
 induction h with
 | nil=>rfl
 | cons h1 _ ih=>
  injection e with e1 e2
  rw [h1.same e1,ih e2]; rfl
end
section
variable {prog:Program} {w:World} {EO:Value→Shared→Prop} {F:Frm} {env:AEnv} {sl:SL} {ρ:List Addr} {s:Shared} {A:Around}
theorem zip_vals {ks:List Str}:∀ {vs us:List Value},ks.length=vs.length→ks.length=us.length→ks.zip vs=ks.zip us→vs=us:=by
 induction ks with
 | nil=>intro vs us h1 h2 _; rw [List.length_eq_zero_iff.mp h1.symm,List.length_eq_zero_iff.mp h2.symm]
 | cons k ks ih=>
  intro vs us h1 h2 e
  match vs,us with
  | [],_=>exact nomatch h1
  | _,[]=>exact nomatch h2
  | v :: vs,u :: us=>
   simp only [List.zip_cons_cons,List.cons.injEq,Prod.mk.injEq,true_and] at e
   rw [e.1,ih (by simpa using h1) (by simpa using h2) e.2]
theorem eqW_dicts {a b:Addr} {oa ob:Obj} {ks:List Str} {vs us:List Value} {c:Bool} (ha:s.heap.get? a=some oa) (hb:s.heap.get? b=some ob) (da:oa.IsDictOf (strKind prog w) (ks.zip vs)) (db:ob.IsDictOf (strKind prog w) (ks.zip us))
  (la:(a==sysModules)=false) (lb:(b==sysModules)=false) (hl:ks.length=vs.length) (hl':ks.length=us.length) (hn:ks.Nodup) (hu:A.units<cLine) (h:All2 A.in1 s vs us c):EqW prog w A s (.ref a) (.ref b) c:=fun E Q hq=>by
 unfold eqBool
 refine wpAny_holding ?_
 refine wpAny_ite_split (fun hab=>?_) (fun _=>?_)
 ·have e:a=b:=by have:=eq_of_beq hab; injection this
  subst e
  rw [ha] at hb
  injection hb with hb
  subst hb
  have e:=h.same (zip_vals hl hl' (isDictOf_vals da db))
  subst e
  exact wpAny_bind (wpAny_rule (wpAny_pure hq))
 ·refine wpAny_bind (keq_eq la lb (Heap.dictOf_iff.mpr ⟨oa,ha,da⟩) (Heap.dictOf_iff.mpr ⟨ob,hb,db⟩) hu (fun _=>hits_of_all2 [] h hl (by simpa using hn)) ?_)
  refine wpAny_truthy_bool ?_
  rw [List.length_zip,List.length_zip,← hl,← hl',Nat.min_self,beq_self_eq_true,Bool.true_and]
  exact hq
inductive AllW (prog:Program) (w:World) (A:Around) (s:Shared):List (Value×Value)→Bool→Prop
 | nil:AllW prog w A s [] true
 | cons {v u:Value} {l:List (Value×Value)} {b c:Bool}:EqW prog w A s v u b→AllW prog w A s l c→AllW prog w A s ((v,u) :: l) (b&&c)
theorem AllW.inv {A:Around} {v u:Value} {l:List (Value×Value)} {r:Bool} (h:AllW prog w A s ((v,u) :: l) r):∃ b c,EqW prog w A s v u b∧AllW prog w A s l c∧r=(b&&c):=by
 cases h with
 | cons h1 h2=>exact ⟨_,_,h1,h2,rfl⟩
theorem tuple_neW (l b:Addr) (items items2:Array Value) (n n2:Nat) (hsz:items.size=items2.size) (r:Bool) :
  MeetsIn prog w (Builtin.«tuple.__ne__» ⟨[.ref l,.ref b],[]⟩)
   (fun A R s=>s.heap.get? l=some { cls:=.type "tuple",data:=.seq items n }∧s.heap.get? b=some { cls:=.type "tuple",data:=.seq items2 n2 } ∧
    AllW prog w A.in1 s (items.toList.zip items2.toList) r∧R (.ok (.ret (.bool (!r)))) s):=
 .of_wp fun A R s h=>by
  obtain ⟨hp,g,d,tk,os⟩:=s; obtain ⟨hl,hb,he,h⟩:=h
  have f2:=AutoSeq1.sub_tuple_tuple
  wp_walk using wpAny_loadPart' hl,wpAny_loadPart' hb,wpAny_forIn_list _ (fun rest b s'=>b.1=none∧s'=⟨hp,g,d,tk,os⟩∧∃ r,AllW prog w A.in1 ⟨hp,g,d,tk,os⟩ rest r∧R (.ok (.ret (.bool (!r)))) ⟨hp,g,d,tk,os⟩) _
  case turn=>
   rintro ⟨y,x⟩ rest b s' ⟨hb',rfl,r,hz,hR⟩
   obtain ⟨b1,c1,e1,e2,rfl⟩:=hz.inv
   refine wpAny_bind (e1 _ _ ?_)
   cases b1 with
   | true=>
    wp_walk
    exact ⟨rfl,rfl,c1,e2,by simpa using hR⟩
   | false=>
    wp_walk
    exact ⟨_,rfl,by simpa using hR⟩
  case fin=>
   rintro ⟨b1,b2⟩ s' ⟨hb',rfl,r,hz,hR⟩
   simp only at hb'
   subst hb'
   cases hz
   wp_walk
   exact ⟨_,rfl,by simpa [Builtin.Tuple.tupleCompareSizes,hsz] using hR⟩
  case h=>
   exact ⟨rfl,rfl,r,he,h⟩
theorem ne_tuplesW {l b:Addr} {vs us:List Value} {n n2:Nat} {r:Bool} {Q E:Value→Shared→Prop} (hl:s.heap.get? l=some (tupO vs n)) (hb:s.heap.get? b=some (tupO us n2)) (hsz:vs.length=us.length) (hu:A.units<cLine)
  (he:AllW prog w A.in1 s (vs.zip us) r) (h:Q (.bool (!r)) s):wpAny (model prog w) A (compareOp .NotEq (.ref l) (.ref b)) Q E s:=
 wpAny_richCompare_same_room (op:=.NotEq) ⟨_,hl,rfl⟩ ⟨_,hb,rfl⟩ F.slot_tuple_ne
  (call_meetsIn F.slot_tuple_ne ⟨_,hl,rfl⟩ F.entry_tuple_ne (F.args_tuple_ne_2 _ _) (tuple_neW l b vs.toArray us.toArray n n2 (by simpa using hsz) r)
   ⟨hl,hb,by simpa using he,show Value.bool (!r)≠Value.notImplemented∧Q (.bool (!r)) s from ⟨(fun x=>nomatch x),h⟩⟩) hu
end
end Mine
end
section
open PySem.SeqAt
namespace Mine
variable {prog:Program} {w:World} {EO:Value→Shared→Prop} {F:Frm} {env:AEnv} {sl:SL} {ρ:List Addr} {s:Shared} {A:Around} {d:Nat}
theorem Room.units' (r:Room A d):A.units+2<cLine:=by have:=r.units; omega
theorem in1_units:A.in1.units=A.units+1:=rfl
theorem strsOf_has {V:Vis}:∀ {l:List AV} {m:List Str} {vs:List Value},strsOf l=some m→HasL prog w V ρ l vs→StrsAre vs m
 | [],_,_,h,hv=>by
  have h:some []=some _:=h
  injection h with h; subst h
  rw [show _=[] from hv]; exact .nil
 | .str x :: l,_,_,h,⟨v,r,e,⟨t,h1⟩,h2⟩=>by
  simp only [strsOf] at h
  split at h
  ·rename_i m hm
   injection h with h
   subst h e h1
   exact .cons x t (strsOf_has hm h2)
  ·exact nomatch h
theorem numsOf_has {V:Vis}:∀ {l:List AV} {m:List Int} {vs:List Value},numsOf l=some m→HasL prog w V ρ l vs→IntsA m vs
 | [],_,_,h,hv=>by
  have h:some []=some _:=h
  injection h with h; subst h
  rw [show _=[] from hv]; rfl
 | .num x :: l,_,_,h,⟨v,r,e,⟨t,h1⟩,h2⟩=>by
  simp only [numsOf] at h
  split at h
  ·rename_i m hm
   injection h with h
   subst h e h1
   exact ⟨t,r,rfl,numsOf_has hm h2⟩
  ·exact nomatch h
def strE (x:Str):Value→Bool
 | .str y _=>y==x
 | _=>false
def intE (x:Int):Value→Bool
 | .int y _=>y==x
 | _=>false
theorem strE_all {m:List Str} {vs:List Value} {x:Str} {t:Tok} {A:Around} (h:StrsAre vs m):(∀ y∈vs,EqAt A s y (.str x t) (strE x y))∧vs.any (strE x)=memS x m:=by
 induction h with
 | nil=>exact ⟨(fun _ h=>nomatch h),rfl⟩
 | cons k u h ih=>
  refine ⟨fun y hy=>?_,?_⟩
  ·rcases List.mem_cons.mp hy with rfl | hy
   ·exact .str_str _ _ _ _
   ·exact ih.1 y hy
  ·rw [List.any_cons,ih.2]
   simp only [strE,memS]
   cases k==x<;>rfl
theorem intE_all {x:Int} {t:Tok} {A:Around}:∀ {m:List Int} {vs:List Value},IntsA m vs→(∀ y∈vs,EqAt A s y (.int x t) (intE x y))∧vs.any (intE x)=memI x m
 | [],_,h=>by rw [show _=[] from h]; exact ⟨(fun _ h=>nomatch h),rfl⟩
 | k :: m,_,⟨u,r,e,h⟩=>by
  subst e
  have ih:=intE_all (x:=x) (t:=t) (A:=A) h
  refine ⟨fun y hy=>?_,?_⟩
  ·rcases List.mem_cons.mp hy with rfl | hy
   ·exact .int_int _ _ _ _
   ·exact ih.1 y hy
  ·rw [List.any_cons,ih.2]
   simp only [intE,memI]
theorem valueAt_isSome:∀ {ks:List Str} {vs:List Value} (x:Str),ks.length=vs.length→(valueAt (ks.zip vs) x).isSome=memS x ks
 | [],_,x,_=>rfl
 | k :: ks,[],x,h=>nomatch h
 | k :: ks,v :: vs,x,h=>by
  have ih:=valueAt_isSome (ks:=ks) (vs:=vs) x (by simpa using h)
  by_cases e:k=x
  ·subst e; simp [valueAt,memS]
  ·have e':(k==x)=false:=beq_eq_false_iff_ne.mpr e
   simp only [valueAt,List.zip_cons_cons,List.find?_cons,decide_eq_false e,memS,e'] at ih ⊢
   exact ih
theorem inA_sound {a b:AV} {x y:Value} (hx:Has prog w (Vw F sl ρ s.heap) ρ a x) (hy:Has prog w (Vw F sl ρ s.heap) ρ b y) {P:AV→Prop} {Q E:Value→Shared→Prop}
  (h:(inA a b).Holds P False) (hQ:LeafP (prog:=prog) (w:=w) F sl ρ s P Q):wpAny (model prog w) A (compareOp .In x y) Q E s:=by
 unfold inA at h
 split at h
 ·obtain ⟨t,rfl⟩:=hx
  obtain ⟨u,rfl⟩:=hy
  exact PyProof.Rows.in_str (hQ _ _ (.bool _) (.tok s.toks) rfl h)
 ·obtain ⟨t,rfl⟩:=hx
  obtain ⟨c,o,vs,rfl,hv,hd,hl,hh⟩:=hy
  refine wpAny_in_of (strKind_is prog w _ t) hv.2.2 (Heap.dictOf_iff.mpr ⟨o,hv.1,hd⟩).mapOf ?_
  refine hQ _ _ (.bool _) (.tok _) ?_ h
  rw [valueAt_isSome _ hl]; rfl
 ·split at h
  ·rename_i m hm
   obtain ⟨t,rfl⟩:=hx
   obtain ⟨c,vs,n,rfl,hv,hh⟩:=hy
   have e:=fun x=>strE_all (s:=s) (x:=x) (t:=t) (A:=A.in1) (strsOf_has hm hh)
   refine in_tupleAt (items:=vs.toArray) (strE _) ⟨_,hv.1,rfl,n,rfl⟩ (fun z hz=>(e _).1 z (by simpa using hz)) ?_
   refine hQ _ _ (.bool _) (.tok s.toks) ?_ h
   rw [List.any_toArray,(e _).2]; rfl
  ·exact h.elim
 ·split at h
  ·rename_i m hm
   obtain ⟨t,rfl⟩:=hx
   obtain ⟨c,vs,n,rfl,hv,hh⟩:=hy
   have e:=fun x=>intE_all (s:=s) (x:=x) (t:=t) (A:=A.in1) (numsOf_has hm hh)
   refine in_tupleAt (items:=vs.toArray) (intE _) ⟨_,hv.1,rfl,n,rfl⟩ (fun z hz=>(e _).1 z (by simpa using hz)) ?_
   refine hQ _ _ (.bool _) (.tok s.toks) ?_ h
   rw [List.any_toArray,(e _).2]; rfl
  ·exact h.elim
 ·split at h
  ·rename_i m hm
   obtain ⟨t,rfl⟩:=hx
   obtain ⟨c,vs,n,rfl,hv,hh⟩:=hy
   have e:=fun x=>intE_all (s:=s) (x:=x) (t:=t) (A:=A.in1) (numsOf_has hm hh)
   refine in_tupleAt (items:=vs.toArray) (intE _) ⟨_,hv.1,rfl,n,rfl⟩ (fun z hz=>(e _).1 z (by simpa using hz)) ?_
   refine hQ _ _ (.sb _) (.tok s.toks) ?_ h
   rw [List.any_toArray,(e _).2]; rfl
  ·exact h.elim
 ·exact h.elim
theorem notInA_sound {a b:AV} {x y:Value} (hx:Has prog w (Vw F sl ρ s.heap) ρ a x) (hy:Has prog w (Vw F sl ρ s.heap) ρ b y) {P:AV→Prop} {Q E:Value→Shared→Prop}
  (h:(notInA a b).Holds P False) (hQ:LeafP (prog:=prog) (w:=w) F sl ρ s P Q):wpAny (model prog w) A (compareOp .NotIn x y) Q E s:=by
 unfold notInA at h
 split at h
 ·obtain ⟨t,rfl⟩:=hx
  obtain ⟨c,o,vs,rfl,hv,hd,hl,hh⟩:=hy
  refine wpAny_notIn_of (strKind_is prog w _ t) hv.2.2 (Heap.dictOf_iff.mpr ⟨o,hv.1,hd⟩).mapOf ?_
  refine hQ _ _ (.bool _) (.tok _) ?_ h
  rw [valueAt_isSome _ hl]; rfl
 ·exact h.elim
theorem isNotA_sound {a b:AV} {x y:Value} (hx:Has prog w (Vw F sl ρ s.heap) ρ a x) (hy:Has prog w (Vw F sl ρ s.heap) ρ b y) {P:AV→Prop} {Q E:Value→Shared→Prop}
  (h:(isNotA a b).Holds P False) (hQ:LeafP (prog:=prog) (w:=w) F sl ρ s P Q):wpAny (model prog w) A (compareOp .IsNot x y) Q E s:=by
 unfold isNotA at h
 split at h
 ·rw [show y=.none from hy]
  split at h
  ·rw [show x=.none from hx]
   exact wpAny_isNot_self rfl (hQ _ _ (.bool false) (.tok s.toks) rfl h)
  ·obtain ⟨t,rfl⟩:=hx
   exact wpAny_isNot_other rfl nofun (hQ _ _ (.bool true) (.tok s.toks) rfl h)
  ·obtain ⟨t,rfl⟩:=hx
   exact wpAny_isNot_other rfl nofun (hQ _ _ (.bool true) (.tok s.toks) rfl h)
  ·exact h.elim
 ·exact h.elim
theorem ordA_sound {op:CmpOp} {a b:AV} {x y:Value} (hx:Has prog w (Vw F sl ρ s.heap) ρ a x) (hy:Has prog w (Vw F sl ρ s.heap) ρ b y) {P:AV→Prop} {Q E:Value→Shared→Prop}
  (h:(ordA op a b).Holds P False) (hQ:LeafP (prog:=prog) (w:=w) F sl ρ s P Q):wpAny (model prog w) A (compareOp op x y) Q E s:=by
 unfold ordA at h
 split at h
 ·rename_i i b₁ j b₂ e1 e2
  obtain ⟨t,rfl⟩:=intOf_has e1 hx
  obtain ⟨u,rfl⟩:=intOf_has e2 hy
  split at h
  ·exact PyProof.Rows.lt_int (hQ _ _ _ (.tok s.toks) (has_mkB _ _) h)
  ·exact PyProof.Rows.le_int (hQ _ _ _ (.tok s.toks) (has_mkB _ _) h)
  ·exact PyProof.Rows.gt_int (hQ _ _ _ (.tok s.toks) (has_mkB _ _) h)
  ·exact PyProof.Rows.ge_int (hQ _ _ _ (.tok s.toks) (has_mkB _ _) h)
  ·exact h.elim
 ·exact h.elim
theorem eqE_at {a b:AV} {x y:Value} {c:Bool} (r:A.units+2<cLine) (h:eqE a b=some c) (hx:Has prog w (Vw F sl ρ s.heap) ρ a x) (hy:Has prog w (Vw F sl ρ s.heap) ρ b y)
  {Q E:Value→Shared→Prop} (hQ:Q (.bool c) s):wpAny (model prog w) A (compareOp .Eq x y) Q E s:=by
 unfold eqE at h
 split at h
 ·obtain ⟨a,vs,n,rfl,hv,hl⟩:=hx
  obtain ⟨b,us,m,rfl,hu,hm⟩:=hy
  obtain ⟨e,hn,he,hr⟩:=(eqFL_at A.in1 s h hl hm).fn
  refine eq_listAt (items:=vs.toArray) (items2:=us.toArray) (e:=e) ⟨_,hv.1,rfl,n,rfl⟩ ⟨_,hu.1,rfl,m,rfl⟩ (by simpa using hn) (by omega) (fun j h1 h2=>by simpa using he j (by simpa using h1) (by simpa using h2)) ?_
  rw [List.size_toArray,hr]; exact hQ
 ·exact (eqF_at h hx hy A s).rc prog w E Q hQ
theorem eqG_at {a b:AV} {x y:Value} {c:Bool} (r:A.units+2<cLine) (h:eqG a b=some c) (hx:Has prog w (Vw F sl ρ s.heap) ρ a x) (hy:Has prog w (Vw F sl ρ s.heap) ρ b y):EqW prog w A.in1 s x y c:=by
 unfold eqG at h
 split at h
 ·obtain ⟨a,o,vs,rfl,hv,hd,hl,hh⟩:=hx
  obtain ⟨b,o',us,rfl,hv',hd',hl',hh'⟩:=hy
  split at h
  ·rename_i he
   obtain ⟨e,hn⟩:=of_decide_eq_true he
   subst e
   exact eqW_dicts hv.1 hv'.1 hd hd' hv.2.2 hv'.2.2 hl hl' hn (by rw [in1_units]; omega) (eqFL_at _ _ h hh hh')
  ·exact nomatch h
 ·exact fun E Q hq=>(eqF_at h hx hy A.in1 s).eq prog w E Q hq
theorem eqGL_at (r:A.units+2<cLine):∀ {l m:List AV} {vs us:List Value} {b:Bool},eqGL l m=some b→HasL prog w (Vw F sl ρ s.heap) ρ l vs→HasL prog w (Vw F sl ρ s.heap) ρ m us→vs.length=us.length∧AllW prog w A.in1 s (vs.zip us) b
 | [],[],_,_,_,h,hv,hu=>by
  have h:some true=some _:=h
  injection h with h; subst h
  rw [show _=[] from hv,show _=[] from hu]; exact ⟨rfl,.nil⟩
 | [],_ :: _,_,_,_,h,_,_=>nomatch h
 | _ :: _,[],_,_,_,h,_,_=>nomatch h
 | x :: l,y :: q,_,_,_,h,⟨v,vs,e,h1,h2⟩,⟨u,us,e',k1,k2⟩=>by
  simp only [eqGL] at h
  split at h
  ·rename_i b c hb hc
   injection h with h
   subst h e e'
   obtain ⟨i1,i2⟩:=eqGL_at r hc h2 k2
   exact ⟨by simp [i1],.cons (eqG_at r hb (und_has _ h1) (und_has _ k1)) i2⟩
  ·exact nomatch h
theorem eqN_at {a b:AV} {x y:Value} {c:Bool} (r:A.units+2<cLine) (h:eqN a b=some c) (hx:Has prog w (Vw F sl ρ s.heap) ρ a x) (hy:Has prog w (Vw F sl ρ s.heap) ρ b y)
  {Q E:Value→Shared→Prop} (hQ:Q (.bool (!c)) s):wpAny (model prog w) A (compareOp .NotEq x y) Q E s:=by
 unfold eqN at h
 split at h
 ·obtain ⟨a,vs,n,rfl,hv,hl⟩:=hx
  obtain ⟨b,us,m,rfl,hu,hm⟩:=hy
  obtain ⟨e,hn,he,hr⟩:=(eqFL_at A.in1 s h hl hm).fn
  refine RcNeAt.lists (items:=vs.toArray) (items2:=us.toArray) (e:=e) ⟨_,hv.1,rfl,n,rfl⟩ ⟨_,hu.1,rfl,m,rfl⟩ (by simpa using hn) (by omega) (fun j h1 h2=>by simpa using he j (by simpa using h1) (by simpa using h2)) prog w E Q ?_
  rw [List.size_toArray,hr]; exact hQ
 ·obtain ⟨a,vs,n,rfl,hv,hl⟩:=hx
  obtain ⟨b,us,m,rfl,hu,hm⟩:=hy
  obtain ⟨e1,e2⟩:=eqGL_at r h hl hm
  exact ne_tuplesW hv.1 hu.1 e1 (by omega) e2 hQ
 ·rw [show x=.none from hx]
  obtain ⟨b,us,m,rfl,hu,hm⟩:=hy
  injection h with h; subst h
  exact RcNeAt.none_tuple (items:=us.toArray) ⟨_,hu.1,rfl,m,rfl⟩ (by omega) prog w E Q hQ
 ·rw [show y=.none from hy]
  obtain ⟨b,us,m,rfl,hu,hm⟩:=hx
  injection h with h; subst h
  exact RcNeAt.tuple_none (items:=us.toArray) ⟨_,hu.1,rfl,m,rfl⟩ (by omega) prog w E Q hQ
 ·exact (eqF_at h hx hy A s).ne prog w E Q hQ
theorem cmpA_sound {op:CmpOp} {a b:AV} {x y:Value} (r:Room A d) (hx:Has prog w (Vw F sl ρ s.heap) ρ a x) (hy:Has prog w (Vw F sl ρ s.heap) ρ b y) {P:AV→Prop} {Q E:Value→Shared→Prop}
  (h:(cmpA op a b).Holds P False) (hQ:LeafP (prog:=prog) (w:=w) F sl ρ s P Q):wpAny (model prog w) A (compareOp op x y) Q E s:=by
 unfold cmpA at h
 split at h
 ·exact inA_sound hx hy h hQ
 ·exact notInA_sound hx hy h hQ
 ·exact isNotA_sound hx hy h hQ
 ·unfold eqA at h
  split at h
  ·refine eqE_at r.units' (c:=_) ?_ hx hy (hQ _ _ (.bool _) (.tok s.toks) rfl h)
   rfl
  ·refine eqE_at r.units' (c:=_) ?_ hx hy (hQ _ _ (.bool _) (.tok s.toks) rfl h)
   rfl
  ·obtain ⟨h1,h⟩:=h
   obtain ⟨c,hc⟩:=Option.isSome_iff_exists.mp h1
   rw [hc] at h
   exact eqE_at r.units' hc (und_has _ hx) (und_has _ hy) (hQ _ _ (.sb c) (.tok s.toks) rfl h)
 ·unfold neA at h
  split at h
  ·refine eqN_at r.units' (c:=_) ?_ hx hy (hQ _ _ (.bool _) (.tok s.toks) rfl h)
   rfl
  ·refine eqN_at r.units' (c:=_) ?_ hx hy (hQ _ _ (.bool _) (.tok s.toks) rfl h)
   rfl
  ·obtain ⟨h1,h⟩:=h
   obtain ⟨c,hc⟩:=Option.isSome_iff_exists.mp h1
   rw [hc] at h
   exact eqN_at r.units' hc (und_has _ hx) (und_has _ hy) (hQ _ _ (.sb (!c)) (.tok s.toks) rfl h)
 ·exact ordA_sound hx hy h hQ
end Mine
end
section
open PySem.SeqAt
namespace Mine
variable {prog:Program} {w:World} {EO:Value→Shared→Prop} {F:Frm} {env:AEnv} {sl:SL} {ρ:List Addr} {s:Shared} {A:Around} {d:Nat}
theorem Inv.slot (I:Inv prog w F env sl ρ s) {n:Nat} {v:Value} {σ:Slot} (h:Has prog w (Vw F sl ρ s.heap) ρ (.loc n) v) (e:sl[n]?=some σ):∃ a,v=.ref a∧ρ[n]?=some a∧SlotAt prog w (Vw F sl ρ s.heap) ρ s.heap a σ:=by
 obtain ⟨a,h1,h2⟩:=h
 exact ⟨a,h2,h1,I.slots n a σ h1 e⟩
theorem Inv.ownNotSm (I:Inv prog w F env sl ρ s) {n:Nat} {a:Addr} {c:AV} (e:sl[n]?=some (.own c)) (h:ρ[n]?=some a):(a==sysModules)=false:=
 I.notSm (I.low a (.inr (.inr (.inr ⟨n,c,e,h⟩)))).1
theorem itemsL_has (I:Inv prog w F env sl ρ s) {v:AV} {x:Value} {l:List AV} (h:itemsL sl v=some l) (hv:Has prog w (Vw F sl ρ s.heap) ρ v x) :
  ∃ a vs n,x=.ref a∧s.heap.get? a=some (lstO vs n)∧HasL prog w (Vw F sl ρ s.heap) ρ l vs:=by
 unfold itemsL at h
 split at h
 ·injection h with h; subst h
  obtain ⟨a,vs,n,e,hv,hl⟩:=hv
  exact ⟨a,vs,n,e,hv.1,hl⟩
 ·injection h with h; subst h
  obtain ⟨a,vs,n,e,hv,hl⟩:=hv
  exact ⟨a,vs,n,e,hv.1,hl.hasL⟩
 ·split at h
  ·rename_i he
   injection h with h; subst h
   obtain ⟨a,e,hr,vs,n,h1,h2⟩:=I.slot hv he
   exact ⟨a,vs,n,e,h1,h2⟩
  ·rename_i he
   injection h with h; subst h
   obtain ⟨a,e,hr,b,vs,n,h1,h2,h3⟩:=I.slot hv he
   injection h1 with h1
   subst h1
   exact ⟨a,vs,n,e,h2.1,h3⟩
  ·exact nomatch h
 ·exact nomatch h
def DVHas (prog:Program) (w:World) (V:Vis) (ρ:List Addr) (h:Heap) (a:Addr):DV→Prop
 | .s ks l=>∃ o vs,h.get? a=some o∧o.IsDictOf (strKind prog w) (ks.zip vs)∧ks.length=vs.length∧HasL prog w V ρ l vs
 | .i ks l=>∃ o vs,h.get? a=some o∧o.IsDictOf (intKind prog w) (ks.zip vs)∧ks.length=vs.length∧HasL prog w V ρ l vs
theorem dictOfV_has (I:Inv prog w F env sl ρ s) {v:AV} {x:Value} {dv:DV} (h:dictOfV sl v=some dv) (hv:Has prog w (Vw F sl ρ s.heap) ρ v x) :
  ∃ a,x=.ref a∧(a==sysModules)=false∧DVHas prog w (Vw F sl ρ s.heap) ρ s.heap a dv:=by
 unfold dictOfV at h
 split at h
 ·injection h with h; subst h
  obtain ⟨a,o,vs,e,hv,hd,hl,hh⟩:=hv
  exact ⟨a,e,hv.2.2,o,vs,hv.1,hd,hl,hh⟩
 ·injection h with h; subst h
  obtain ⟨a,o,vs,e,hv,hd,hl,hh⟩:=hv
  exact ⟨a,e,hv.2.2,o,vs,hv.1,hd,hl,hh⟩
 ·split at h
  ·rename_i he
   injection h with h; subst h
   obtain ⟨a,e,hr,o,vs,h1,h2,h3,h4⟩:=I.slot hv he
   exact ⟨a,e,I.ownNotSm he hr,o,vs,h1,h2,h3,h4⟩
  ·rename_i he
   injection h with h; subst h
   obtain ⟨a,e,hr,o,vs,h1,h2,h3,h4⟩:=I.slot hv he
   exact ⟨a,e,I.ownNotSm he hr,o,vs,h1,h2,h3,h4⟩
  ·exact nomatch h
 ·exact nomatch h
theorem lookS_has {V:Vis} {x:Str}:∀ {ks:List Str} {l:List AV} {vs:List Value},HasL prog w V ρ l vs→ks.length=vs.length →
  match lookS ks l x with
  | some av=>∃ v,valueAt (ks.zip vs) x=some v∧Has prog w V ρ av v
  | none=>valueAt (ks.zip vs) x=none
 | [],l,vs,_,_=>by simp [lookS,valueAt]
 | k :: ks,[],vs,h,hl=>by rw [show vs=[] from h] at hl; exact nomatch hl
 | k :: ks,y :: l,_,⟨v,r,e,h1,h2⟩,hl=>by
  subst e
  have ih:=lookS_has (x:=x) (ks:=ks) h2 (by simpa using hl)
  by_cases e:k=x
  ·subst e
   simp only [lookS,beq_self_eq_true]
   exact ⟨v,by simp [valueAt],h1⟩
  ·have e':(k==x)=false:=beq_eq_false_iff_ne.mpr e
   simp only [lookS,e',valueAt,List.zip_cons_cons,List.find?_cons,decide_eq_false e] at ih ⊢
   exact ih
theorem lookI_has {V:Vis} {x:Int}:∀ {ks:List Int} {l:List AV} {vs:List Value},HasL prog w V ρ l vs→ks.length=vs.length →
  match lookI ks l x with
  | some av=>∃ v,valueAt (ks.zip vs) x=some v∧Has prog w V ρ av v
  | none=>valueAt (ks.zip vs) x=none
 | [],l,vs,_,_=>by simp [lookI,valueAt]
 | k :: ks,[],vs,h,hl=>by rw [show vs=[] from h] at hl; exact nomatch hl
 | k :: ks,y :: l,_,⟨v,r,e,h1,h2⟩,hl=>by
  subst e
  have ih:=lookI_has (x:=x) (ks:=ks) h2 (by simpa using hl)
  by_cases e:k=x
  ·subst e
   simp only [lookI]
   exact ⟨v,by simp [valueAt],h1⟩
  ·simp only [lookI,decide_eq_false e,valueAt,List.zip_cons_cons,List.find?_cons] at ih ⊢
   exact ih
theorem strAt_has {x:Int} {dft:Str}:∀ {ks:List Int} {m:List Str} {vs:List Value},StrsAre vs m→ks.length=vs.length →
  (∃ t,valueAt (ks.zip vs) x=some (.str (strAt ks m x dft) t))∨(valueAt (ks.zip vs) x=none∧strAt ks m x dft=dft∧x ∉ ks)
 | [],m,vs,_,_=>.inr ⟨by simp [valueAt],by simp [strAt],by simp⟩
 | k :: ks,[],vs,h,hl=>by cases h; exact nomatch hl
 | k :: ks,y :: m,_,.cons _ t h,hl=>by
  have ih:=strAt_has (x:=x) (dft:=dft) (ks:=ks) h (by simpa using hl)
  by_cases e:k=x
  ·subst e
   simp only [strAt]
   exact .inl ⟨t,by simp [valueAt]⟩
  ·simp only [strAt,decide_eq_false e,valueAt,List.zip_cons_cons,List.find?_cons,List.mem_cons,not_or] at ih ⊢
   rcases ih with ih | ⟨h1,h2,h3⟩
   ·exact .inl ih
   ·exact .inr ⟨h1,h2,fun q=>e q.symm,h3⟩
theorem treeI_has {V:Vis} {x:Int} {P:AV→Prop} {dft:AV}:∀ {ks:List Int} {l:List AV} {vs:List Value},(treeI ks l x (.ret dft)).Holds P False→HasL prog w V ρ l vs→ks.length=vs.length →
  (∃ v av,valueAt (ks.zip vs) x=some v∧Has prog w V ρ av v∧P av)∨(valueAt (ks.zip vs) x=none∧P dft)
 | [],l,vs,h,_,_=>.inr ⟨by simp [valueAt],h⟩
 | k :: ks,[],vs,_,h,hl=>by rw [show vs=[] from h] at hl; exact nomatch hl
 | k :: ks,y :: l,_,hh,⟨v,r,e,h1,h2⟩,hl=>by
  subst e
  obtain ⟨g1,g2⟩:=hh
  by_cases e:k=x
  ·subst e
   exact .inl ⟨v,y,by simp [valueAt],h1,g1 (decide_eq_true rfl)⟩
  ·have ih:=treeI_has (x:=x) (ks:=ks) (g2 (decide_eq_false e)) h2 (by simpa using hl)
   simp only [valueAt,List.zip_cons_cons,List.find?_cons,decide_eq_false e] at ih ⊢
   exact ih
def Got (prog:Program) (w:World) (V:Vis) (ρ:List Addr) (P:AV→Prop) (dv:Option Value) (o:Option Value):Prop:=match dv with
 | none=>∃ v av,o=some v∧Has prog w V ρ av v∧P av
 | some u=>∃ av,Has prog w V ρ av (o.getD u)∧P av
def DfHas (prog:Program) (w:World) (V:Vis) (ρ:List Addr):Option AV→Option Value→Prop
 | none,o=>o=none
 | some a,o=>∃ u,o=some u∧Has prog w V ρ a u
theorem getD_got {V:Vis} {a:Addr} {dv:DV} {k:AV} {key:Value} {df:Option AV} {dval:Option Value} {P:AV→Prop} (hd:DVHas prog w V ρ s.heap a dv) (hk:Has prog w V ρ k key) (hf:DfHas prog w V ρ df dval)
  (h:(getD dv k df).Holds P False):∃ (K:Type) (_:DecidableEq K) (knd:KeyKind prog w K) (kk:K) (f:K→Option Value),knd.is kk key=true∧s.heap.MapOf knd a f∧Got prog w V ρ P dval (f kk):=by
 unfold getD at h
 split at h
 ·rename_i ks l x
  obtain ⟨o,vs,h1,h2,h3,h4⟩:=hd
  obtain ⟨t,rfl⟩:=hk
  refine ⟨Str,_,strKind prog w,x,_,strKind_is prog w x t,(Heap.dictOf_iff.mpr ⟨o,h1,h2⟩).mapOf,?_⟩
  have e:=lookS_has (x:=x) h4 h3
  split at h
  ·rename_i av e1
   rw [e1] at e
   obtain ⟨v,e2,e3⟩:=e
   cases dval with
   | none=>exact ⟨v,av,e2,e3,h⟩
   | some u=>exact ⟨av,by rw [e2]; exact e3,h⟩
  ·rename_i e1
   rw [e1] at e
   split at h
   ·obtain ⟨u,rfl,hu⟩:=hf
    exact ⟨_,by rw [e]; exact hu,h⟩
   ·exact h.elim
 ·rename_i ks l x
  obtain ⟨o,vs,h1,h2,h3,h4⟩:=hd
  obtain ⟨t,rfl⟩:=hk
  refine ⟨Int,_,intKind prog w,x,_,intKind_is prog w x t,(Heap.dictOf_iff.mpr ⟨o,h1,h2⟩).mapOf,?_⟩
  have e:=lookI_has (x:=x) h4 h3
  split at h
  ·rename_i av e1
   rw [e1] at e
   obtain ⟨v,e2,e3⟩:=e
   cases dval with
   | none=>exact ⟨v,av,e2,e3,h⟩
   | some u=>exact ⟨av,by rw [e2]; exact e3,h⟩
  ·rename_i e1
   rw [e1] at e
   split at h
   ·obtain ⟨u,rfl,hu⟩:=hf
    exact ⟨_,by rw [e]; exact hu,h⟩
   ·exact h.elim
 ·rename_i ks l x
  obtain ⟨o,vs,h1,h2,h3,h4⟩:=hd
  obtain ⟨t,rfl⟩:=hk
  refine ⟨Int,_,intKind prog w,x,_,intKind_is prog w x t,(Heap.dictOf_iff.mpr ⟨o,h1,h2⟩).mapOf,?_⟩
  split at h
  ·rename_i m dft e1
   obtain ⟨u,rfl,t',rfl⟩:=hf
   rcases strAt_has (x:=x) (dft:=dft) (strsOf_has e1 h4) h3 with ⟨t,e⟩ | ⟨e,e',_⟩
   ·exact ⟨.str _,by rw [e]; exact ⟨t,rfl⟩,h⟩
   ·exact ⟨.str _,by rw [e,e']; exact ⟨t',rfl⟩,h⟩
  ·rename_i m e1
   obtain rfl:dval=none:=hf
   obtain ⟨hx,h⟩:=h
   rcases strAt_has (x:=x) (dft:=⟨#[]⟩) (strsOf_has e1 h4) h3 with ⟨t,e⟩ | ⟨_,_,e⟩
   ·exact ⟨_,.str _,e,⟨t,rfl⟩,h⟩
   ·exact absurd hx e
  ·obtain ⟨u,rfl,hu⟩:=hf
   rcases treeI_has h h4 h3 with ⟨v,av,e1,e2,e3⟩ | ⟨e1,e2⟩
   ·exact ⟨av,by rw [e1]; exact e2,e3⟩
   ·exact ⟨_,by rw [e1]; exact hu,e2⟩
  ·exact h.elim
 ·exact h.elim
theorem treeN_has {x:Int} {P:AV→Prop}:∀ {l:List AV} {n:Nat},(treeN n l x).Holds P False→∃ k av,x=((n+k:Nat):Int)∧l[k]?=some av∧P av
 | [],n,h=>h.elim
 | y :: l,n,⟨h1,h2⟩=>by
  by_cases e:x=n
  ·exact ⟨0,y,e,rfl,h1 (decide_eq_true e)⟩
  ·obtain ⟨k,av,e1,e2,e3⟩:=treeN_has (l:=l) (n:=n+1) (h2 (decide_eq_false e))
   exact ⟨k+1,av,by rw [e1]; congr 1; omega,by simpa using e2,e3⟩
theorem nthStr_has:∀ {m:List Str} {vs:List Value} {k:Nat},StrsAre vs m→k<m.length→∃ t,vs[k]?=some (.str (nthStr m k) t)
 | x :: m,_,0,.cons _ t h,_=>⟨t,rfl⟩
 | x :: m,_,k+1,.cons _ t h,hk=>by
  obtain ⟨u,e⟩:=nthStr_has (k:=k) h (by simpa using hk)
  exact ⟨u,by simpa [nthStr] using e⟩
theorem itemA_sound {a b:AV} {x y:Value} (I:Inv prog w F env sl ρ s) (hx:Has prog w (Vw F sl ρ s.heap) ρ a x) (hy:Has prog w (Vw F sl ρ s.heap) ρ b y) {P:AV→Prop} {Q E:Value→Shared→Prop}
  (h:(itemA sl a b).Holds P False) (hQ:LeafP (prog:=prog) (w:=w) F sl ρ s P Q) {value slice:PySem.Expr} (hs:∀ o i,subscripted slice false o i=operate [o,i] (getItem o i)):wpAny (model prog w) A (subscriptTail value slice x y) Q E s:=by
 unfold itemA at h
 split at h
 ·rename_i l i
  obtain ⟨a,vs,n,rfl,hv,hl⟩:=hx
  obtain ⟨t,rfl⟩:=hy
  obtain ⟨⟨h0,h1,h2⟩,h⟩:=h
  have e:l[i.toNat]?=some (l.getD i.toNat 0):=by
   rw [List.getD_eq_getElem?_getD,List.getElem?_eq_getElem (by omega)]; rfl
  obtain ⟨u,hu⟩:=hl.get e
  exact tail_any (T := "list") ⟨_,hv.1,rfl⟩ PySem.F.slot_list_getitem.lookup (wpAny_getItem_list (items:=vs.toArray) ⟨_,hv.1,rfl,n,rfl⟩ h0 (by omega) (by simpa using hu) (hQ _ _ (.sym _) (.tok s.toks) ⟨u,rfl⟩ h)) (hs _ _)
 ·exact h.elim
 ·rename_i l i
  split at h
  ·rename_i n
   split at h
   ·rename_i av e
    obtain ⟨a,vs,m,rfl,hv,hl⟩:=hx
    obtain ⟨t,rfl⟩:=hy
    obtain ⟨hz,h⟩:=guardB_holds h
    obtain ⟨u,hu,hh⟩:=hl.get e
    have hb:=blt_lt hz
    have hn:n<vs.length:=by rw [hl.length]; exact (List.getElem?_eq_some_iff.mp e).1
    refine tail_any (T := "tuple") ⟨_,hv.1,rfl⟩ PySem.F.slot_tuple_getitem.lookup (PyProof.Rows.getItem_tuple (items:=vs.toArray) (j:=n) ⟨_,hv.1,rfl,m,rfl⟩ (by show -(2 ^ 63)≤(n:Int); omega) (by show (n:Int)<2 ^ 63; rw [hl.length] at hn; omega) ?_ (by simpa using hu) (hQ _ _ av (.tok s.toks) hh h)) (hs _ _)
    have hn0:¬ ((n:Int)<0):=by omega
    simp [seqIndex?,hn0,hn]
   ·exact h.elim
  ·exact h.elim
 ·split at h
  ·rename_i l n e _ _
   obtain ⟨a,vs,m,rfl,hv,hl⟩:=itemsL_has I e hx
   obtain ⟨t,rfl⟩:=hy
   split at h
   ·rename_i av e
    obtain ⟨hz,h⟩:=guardB_holds h
    obtain ⟨u,hu,hh⟩:=hl.get e
    have hb:=blt_lt hz
    have hn:n<l.length:=(List.getElem?_eq_some_iff.mp e).1
    exact tail_any (T := "list") ⟨_,hv,rfl⟩ PySem.F.slot_list_getitem.lookup (wpAny_getItem_list (items:=vs.toArray) ⟨_,hv,rfl,m,rfl⟩ (Int.natCast_nonneg n) (by simp; omega) (by simpa using hu) (hQ _ _ av (.tok s.toks) hh h)) (hs _ _)
   ·exact h.elim
  ·rename_i l i e _ _
   obtain ⟨a,vs,m,rfl,hv,hl⟩:=itemsL_has I e hx
   obtain ⟨t,rfl⟩:=hy
   split at h
   ·rename_i ts e
    obtain ⟨hz,h⟩:=guardB_holds h
    obtain ⟨⟨h0,h1⟩,h⟩:=h
    have hb:=blt_lt hz
    obtain ⟨u,hu⟩:=nthStr_has (k:=i.toNat) (strsOf_has e hl) (by omega)
    exact tail_any (T := "list") ⟨_,hv,rfl⟩ PySem.F.slot_list_getitem.lookup (wpAny_getItem_list (items:=vs.toArray) ⟨_,hv,rfl,m,rfl⟩ h0 (by omega) (by simpa using hu) (hQ _ _ (.str _) (.tok s.toks) ⟨u,rfl⟩ h)) (hs _ _)
   ·obtain ⟨hz,h⟩:=guardB_holds h
    have hb:=blt_lt hz
    obtain ⟨k,av,e1,e2,e3⟩:=treeN_has h
    obtain ⟨u,hu,hh⟩:=hl.get e2
    have hn:k<l.length:=(List.getElem?_eq_some_iff.mp e2).1
    subst e1
    exact tail_any (T := "list") ⟨_,hv,rfl⟩ PySem.F.slot_list_getitem.lookup (wpAny_getItem_list (items:=vs.toArray) ⟨_,hv,rfl,m,rfl⟩ (Int.natCast_nonneg _) (by simp; omega) (by simpa using hu) (hQ _ _ av (.tok s.toks) hh e3)) (hs _ _)
  ·split at h
   ·rename_i dv e
    obtain ⟨c,rfl,hc,hd⟩:=dictOfV_has I e hx
    obtain ⟨K,_,knd,kk,f,e1,e2,v,av,e3,e4,e5⟩:=getD_got (df:=none) (dval:=none) hd hy rfl h
    exact tail_any (T := "dict") e2.typeIs PySem.F.slot_dict_getitem.lookup (wpAny_getItem_of e1 e2 e3 (hQ _ _ av (.tok _) e4 e5)) (hs _ _)
   ·exact h.elim
end Mine
end
section
open PySem.SeqAt PySem.NumText
namespace Mine
theorem binOk_mem:∀ {l:List Nat},binOk l=true→∀ c∈l,c=48∨c=49
 | [],_,_,h=>nomatch h
 | c :: l,h,x,hx=>by
  simp only [binOk,Bool.and_eq_true,Bool.or_eq_true,beq_iff_eq] at h
  rcases List.mem_cons.mp hx with rfl | hx
  ·exact h.1
  ·exact binOk_mem h.2 x hx
theorem digits_fold:∀ {l:List Nat} (p:Array Nat) (b:Bool),binOk l=true→l.foldlM (step 2) (p,b)=some (p++(l.map (· - 48)).toArray,b||!l.isEmpty)
 | [],p,b,_=>by simp
 | c :: l,p,b,h=>by
  simp only [binOk,Bool.and_eq_true,Bool.or_eq_true,beq_iff_eq] at h
  rw [List.foldlM_cons]
  have e:step 2 (p,b) c=some (p.push (c - 48),true):=by
   rcases h.1 with rfl | rfl<;>rfl
  rw [e]
  show l.foldlM (step 2) (p.push (c - 48),true)=_
  rw [digits_fold (p.push (c - 48)) true h.2]
  simp
theorem binVal_fold:∀ (l:List Nat) (acc:Nat),(l.map (· - 48)).foldl (fun acc d=>acc*2+d) acc=binVal l acc
 | [],_=>rfl
 | c :: l,acc=>by simp only [List.map_cons,List.foldl_cons,binVal]; exact binVal_fold l _
theorem dropWhile_keep {p:Nat→Bool}:∀ {l:List Nat},(∀ c∈l,p c=false)→l.dropWhile p=l
 | [],_=>rfl
 | c :: l,h=>by rw [List.dropWhile_cons,h c (by simp)]; rfl
theorem takeWhile_keep {p:Nat→Bool}:∀ {l:List Nat},(∀ c∈l,p c=true)→l.takeWhile p=l
 | [],_=>rfl
 | c :: l,h=>by rw [List.takeWhile_cons,h c (by simp),if_pos rfl,takeWhile_keep fun x hx=>h x (by simp [hx])]
theorem read_two {l:List Nat} (h:binOk l=true) (hne:l≠[]):(int_private% "readNumeral") 0 2 l=(int_private% "Numeral.value") (binVal l 0:Nat):=by
 have hm:=binOk_mem h
 have hb:∀ c∈l,blank c=false:=fun c hc=>by rcases hm c hc with rfl | rfl<;>rfl
 have e1:l.dropWhile blank=l:=dropWhile_keep hb
 have e2:sign l=(false,l):=by
  match l,hne,hm with
  | c :: r,_,hm=>rcases hm c (by simp) with rfl | rfl<;>rfl
 have e3:prefix? l=none:=by
  match l,hne,hm with
  | [c],_,hm=>rcases hm c (by simp) with rfl | rfl<;>rfl
  | c :: d :: r,_,hm=>
   rcases hm c (by simp) with rfl | rfl
   ·rcases hm d (by simp) with rfl | rfl<;>rfl
   ·rfl
 have e4:(l.reverse.dropWhile blank).reverse=l:=by
  rw [dropWhile_keep fun c hc=>hb c (by simpa using hc),List.reverse_reverse]
 have e5:based 2 l=(2,false,l):=by unfold based; rw [e3]; rfl
 rw [readNumeral_eq,e1,e2]
 dsimp only
 rw [e5]
 dsimp only
 rw [e4]
 have e6:digits? 2 l=some (#[]++(l.map (· - 48)).toArray):=by
  unfold digits?
  rw [digits_fold #[] false h]
  cases l with
  | nil=>exact absurd rfl hne
  | cons c r=>rfl
 rw [e6]
 simp only [judge]
 have e7:(#[]++(l.map (· - 48)).toArray).foldl (fun acc d=>acc*2+d) 0=binVal l 0:=by
  rw [← binVal_fold l 0]; simp
 rw [e7]
 simp
theorem wp_text2 {M:Model} {A:Around} {E:Value→Shared→Prop} {s:Shared} {Q:Value→Shared→Prop} {v:Value} {text:List Nat} {n:Int}
  (hs:(text.takeWhile (· != 0)).length≤640) (hr:(int_private% "readNumeral") 0 2 (text.takeWhile (· != 0))=(int_private% "Numeral.value") n)
  (ha:((text.takeWhile (· != 0)).length==text.length)=true) (h:Q (.int n s.toks) { s with toks:=s.toks+1 }) :
  wpAny M A ((int_private% "intFromText") v text 2) Q E s:=by
 obtain ⟨hp,g,d,tk,os⟩:=s
 repeat (any_goals (first
  | assumption
  | (with_reducible refine wpAny_ite_true (decide_eq_true hs) ?_)
  | (with_reducible refine wpAny_ite_true (decide_eq_true ha) ?_)
  | wp_step))
 all_goals (try rw [hr])
 all_goals (try dsimp only)
 repeat (any_goals (first
  | assumption
  | (with_reducible refine wpAny_ite_true (decide_eq_true hs) ?_)
  | (with_reducible refine wpAny_ite_true (decide_eq_true ha) ?_)
  | wp_step))
theorem typeCall_int_2 (a b:Value):checkTypeCall "int" ⟨[a,b],[]⟩=pure ():=by kernel_rfl
theorem newCall_int_2 (a b:Value):checkBuiltinCall "int.__new__" ⟨[.type "int",a,b],[]⟩=pure ():=by kernel_rfl
theorem initArgs_int_2 (obj a b:Value):argsOk "object.__init__" ⟨[obj,a,b],[]⟩:=by
 unfold argsOk; rw [signature?_of (id := "object.__init__") (n:=['_','_','t','i','n','i','_','_']) (o:=['t','c','e','j','b','o']) (by kernel_rfl) F.owner_object]; kernel_rfl
theorem gives_text2 {x:PySem.Str} {u t:Tok} {n:Int} (hs:(x.cps.toList.takeWhile (· != 0)).length≤640) (hr:(int_private% "readNumeral") 0 2 (x.cps.toList.takeWhile (· != 0))=(int_private% "Numeral.value") n)
  (ha:((x.cps.toList.takeWhile (· != 0)).length==x.cps.toList.length)=true) (hall:x.cps.all (·<128)=true) :
  Gives (Builtin.«int.__new__» ⟨[.type "int",.str x u,.int 2 t],[]⟩) (.int n):=
 .of_wp fun M A E s Q h=>by
  obtain ⟨hp,g,d,tk,os⟩:=s
  have f1:=F.conv_sub_int
  have f2:=F.madeHere_int
  have f6:typeOf (.str x u)=pure (.type "str"):=rfl
  have hk:=KIN.Hid.mk (And.intro hs (And.intro hr ha))
  clear hs hr ha
  repeat (any_goals (first
   | assumption
   | ((with_reducible show wpAny _ _ ((int_private% "intFromText") _ _ _) _ _ _); (try rw [if_pos hall]); refine wp_text2 hk.out.1 hk.out.2.1 hk.out.2.2 ?_)
   | wp_step))
  all_goals first | exact ⟨_,rfl,h⟩ | skip
theorem call_int_two {prog:Program} {w:World} {A:Around} {E:Value→Shared→Prop} {s:Shared} {Q:Value→Shared→Prop} {x:PySem.Str} {u t:Tok} (h1:binOk x.cps.toList=true) (h2:x.cps.toList≠[]) (h3:x.cps.toList.length≤640)
  (h:Q (.int (binVal x.cps.toList 0:Nat) s.toks) { s with toks:=s.toks+1 }):wpAny (model prog w) A (call (.type "int") [.str x u,.int 2 t]) Q E s:=by
 have hm:=binOk_mem h1
 have e:x.cps.toList.takeWhile (· != 0)=x.cps.toList:=takeWhile_keep fun c hc=>by rcases hm c hc with rfl | rfl<;>rfl
 have ha:x.cps.all (·<128)=true:=by
  rw [← Array.all_toList,List.all_eq_true]
  intro c hc
  rcases hm c hc with rfl | rfl<;>rfl
 refine callType_new F.called_int F.newNe_int (typeCall_int_2 _ _) (newCall_int_2 _ _) (fun obj=>initArgs_int_2 obj _ _) F.entry_int_new
  (gives_text2 (by rw [e]; exact h3) (by rw [e]; exact read_two h1 h2) (by rw [e]; exact beq_self_eq_true _) ha).meets (show (Made.int _).post _ s from ⟨rfl,h⟩)
end Mine
end
section
open PySem.SeqAt
namespace Mine
variable {prog:Program} {w:World} {EO:Value→Shared→Prop} {F:Frm} {env:AEnv} {sl:SL} {ρ:List Addr} {s:Shared} {A:Around} {d:Nat}
def BK.val:BK→Value
 | .len=>.builtin "len"
 | .range=>.type "range"
 | .sum=>.builtin "sum"
 | .all=>.builtin "all"
 | .int=>.type "int"
 | .str=>.type "str"
 | .list=>.type "list"
theorem IntsA.are:∀ {l:List Int} {vs:List Value},IntsA l vs→IntsAre vs l
 | [],_,h=>by rw [show _=[] from h]; exact .nil
 | x :: l,_,⟨t,r,e,h⟩=>by subst e; exact .cons x t h.are
theorem Calm.kept {h':Heap} {tk:Nat} (hk:∀ b o,s.heap.get? b=some o→h'.get? b=some o):Calm F sl ρ s { s with heap:=h',toks:=tk }:=⟨hk,rfl,rfl,rfl⟩
theorem sum_rule {l:Addr} {ns:List Int} {vs:List Value} {Q E:Value→Shared→Prop} (hh:A.handled=none) (hl:s.heap.IsList l vs.toArray) (hi:IntsAre vs ns)
  (h:∀ h' tk t',(∀ b o,s.heap.get? b=some o→h'.get? b=some o)→Q (.int ns.sum t') { s with heap:=h',toks:=tk }):wpAny (model prog w) A (call (.builtin "sum") [.ref l]) Q E s:=by
 obtain ⟨xs,hx⟩:=hi.allInts.items
 have hl':s.heap.IsList l (intItems xs):=hx ▸ hl
 refine sum_intListG hh hl' fun h' tk t' hk=>?_
 have e1:ns=xs.toList.map (·.1):=by
  rw [← nums_intItems,← hx]
  exact (show PySem.numsOf vs.toArray.toList=ns from hi.numsOf).symm
 have e2:preSum (numAt xs) xs.size=ns.sum:=by
  rw [preSum_eq,List.take_of_length_le (by simp),e1]
 rw [e2]
 exact h h' tk t' hk
theorem all_rule {l:Addr} {bs:List Bool} {vs:List Value} {Q E:Value→Shared→Prop} (hh:A.handled=none) (hl:s.heap.IsList l vs.toArray) (hb:LSm.BoolsAre vs bs)
  (h:∀ h' tk,(∀ b o,s.heap.get? b=some o→h'.get? b=some o)→Q (.bool (bs.all id)) { s with heap:=h',toks:=tk }):wpAny (model prog w) A (call (.builtin "all") [.ref l]) Q E s:=by
 have hlt:l<s.heap.objs.size:=by obtain ⟨_,e,_⟩:=hl; exact Heap.lt_size e
 refine call_all_walk (wpAny_pyIter_list hl ?_)
 refine ⟨s.heap.objs.size,[s.heap.objs.size,l],[s.heap.objs.size],vs.toArray.size,_,_,fun i=>(bs[i]?).getD true,rfl,Walks.list (A:=A.in1) hh _ l (Nat.ne_of_lt hlt) vs.toArray,
  ⟨⟨_,Heap.get?_push_size _ rfl,rfl,rfl⟩,hl.push _⟩,fun i v s' Q' E' hP hQ=>?_,fun h' tk hk=>?_⟩
 ·obtain ⟨b,e,rfl⟩:=hb.get i v (by simpa using hP)
  simp only [e,Option.getD_some] at hQ
  exact wpAny_truthy_bool hQ
 ·have e:((List.range vs.toArray.size).all fun i=>(bs[i]?).getD true)=bs.all id:=by
   rw [List.size_toArray,hb.length]; exact LSm.range_all bs
  rw [e]
  exact h h' tk (LSm.kept_iter hk)
theorem allB_has {V:Vis}:∀ {l:List AV} {vs:List Value} {b t:Bool},allB l=some (b,t)→HasL prog w V ρ l vs→∃ bs,LSm.BoolsAre vs bs∧bs.all id=b
 | [],_,_,_,h,hv=>by
  have h:some (true,false)=some _:=h
  injection h with h
  injection h with h1 _
  rw [show _=[] from hv]; exact ⟨[],.nil,h1⟩
 | x :: l,_,_,_,h,⟨v,r,e,h1,h2⟩=>by
  simp only [allB] at h
  split at h
  ·rename_i b s c t e1 e2
   injection h with h
   injection h with h3 _
   obtain ⟨bs,k1,k2⟩:=allB_has e2 h2
   have:=boolOf_has e1 h1
   subst this e
   exact ⟨b :: bs,.cons b k1,by rw [List.all_cons,k2,← h3]; rfl⟩
  ·exact nomatch h
theorem upFrom_has {V:Vis} {c:Int}:∀ {n:Nat} {a:Int} {vs:List Value},vs.length=n→(∀ (j:Nat) v,vs[j]?=some v→∃ t,v=.int (a+j*c) t)→HasL prog w V ρ ((upFrom a c n).map .num) vs
 | 0,_,vs,hl,_=>List.length_eq_zero_iff.mp hl
 | n+1,a,[],hl,_=>nomatch hl
 | n+1,a,v :: vs,hl,h=>by
  obtain ⟨t,e⟩:=h 0 v rfl
  refine ⟨v,vs,rfl,⟨t,by rw [e]; simp⟩,upFrom_has (by simpa using hl) fun j u hj=>?_⟩
  obtain ⟨t,e⟩:=h (j+1) u (by simpa using hj)
  exact ⟨t,by rw [e]; congr 1; push_cast; rw [Int.add_mul]; omega⟩
theorem rngOk_and {a b c:Int} (h:rngOk a b c=true):Builtin.Range.small a b c=true∧Builtin.Range.rangeSize a b c=((Builtin.Range.rangeSize a b c).toNat:Int)∧(Builtin.Range.rangeSize a b c).toNat≤2 ^ 24:=by
 simp only [rngOk,Bool.and_eq_true,decide_eq_true_eq] at h
 exact ⟨h.1.1,h.1.2,Nat.le_of_ble_eq_true h.2⟩
theorem small_log2 {n:Nat} (h:n<1000000):n.log2<1920:=by
 by_cases h0:n=0
 ·rw [h0]; decide +kernel
 ·have:n.log2<20:=(Nat.log2_lt h0).mpr (by omega)
  omega
theorem callK_sound {k:BK} {args:List AV} {vs:List Value} (r:Room A d) (I:Inv prog w F env sl ρ s) (hx:HasL prog w (Vw F sl ρ s.heap) ρ args vs) {P:AV→Prop} {Q E:Value→Shared→Prop}
  (h:(callK k sl args).Holds P False) (hQ:LeafP (prog:=prog) (w:=w) F sl ρ s P Q):wpAny (model prog w) A (call k.val vs) Q E s:=by
 unfold callK at h
 split at h
 ·obtain ⟨_,_,rfl,⟨t,rfl⟩,hx⟩:=hx
  rw [show _=[] from hx]
  obtain ⟨hz,h⟩:=guardB_holds h
  have hb:=blt_lt hz
  exact PyProof.Rows.len_str (by omega) (hQ _ _ (.num _) (.tok _) ⟨_,rfl⟩ h)
 ·obtain ⟨_,_,rfl,⟨a,us,n,rfl,hv,hl⟩,hx⟩:=hx
  rw [show _=[] from hx]
  obtain ⟨hz,h⟩:=h
  have e:=hl.length
  refine call_len_list (items:=us.toArray) ⟨_,hv.1,rfl,n,rfl⟩ (by simp; omega) (hQ _ _ (.sym _) (.tok _) ⟨s.toks+1,?_⟩ h)
  simp [e]
 ·obtain ⟨_,_,rfl,hx,hy⟩:=hx
  rw [show _=[] from hy]
  split at h
  ·rename_i l e
   obtain ⟨a,us,m,rfl,hv,hl⟩:=itemsL_has I e hx
   obtain ⟨hz,h⟩:=guardB_holds h
   have hb:=blt_lt hz
   have e:=hl.length
   refine call_len_list (items:=us.toArray) ⟨_,hv,rfl,m,rfl⟩ (by simp; omega) (hQ _ _ (.num _) (.tok _) ⟨s.toks+1,?_⟩ h)
   simp [e]
  ·exact h.elim
 ·split at h
  ·rename_i v e
   unfold rangeOf at e
   split at e
   ·injection e with e; subst e
    obtain ⟨_,_,rfl,⟨t,rfl⟩,hx⟩:=hx
    rw [show _=[] from hx]
    exact call_range_1 (hQ _ _ (.rng _ _ _) (.push _ _) ⟨_,_,_,_,rfl,vis_new I (get_size _) (Heap.get?_push_size _ rfl)⟩ h)
   ·injection e with e; subst e
    obtain ⟨_,_,rfl,⟨t,rfl⟩,_,_,rfl,⟨u,rfl⟩,hx⟩:=hx
    rw [show _=[] from hx]
    exact call_range_2 (hQ _ _ (.rng _ _ _) (.push _ _) ⟨_,_,_,_,rfl,vis_new I (get_size _) (Heap.get?_push_size _ rfl)⟩ h)
   ·split at e
    ·rename_i hc
     injection e with e; subst e
     obtain ⟨_,_,rfl,⟨t,rfl⟩,_,_,rfl,⟨u,rfl⟩,_,_,rfl,⟨x,rfl⟩,hx⟩:=hx
     rw [show _=[] from hx]
     simp only [decide_eq_true_eq] at hc
     refine call_range_3 (by omega) (hQ _ _ (.rng _ _ _) (.push _ _) ⟨_,_,_,_,rfl,vis_new I (get_size _) (Heap.get?_push_size _ rfl)⟩ h) (.inl (PyProof.noPylong_small (by omega)))
    ·exact nomatch e
   ·exact nomatch e
  ·exact h.elim
 ·obtain ⟨_,_,rfl,⟨a,us,n,rfl,hv,hl⟩,hx⟩:=hx
  rw [show _=[] from hx]
  exact sum_rule r.hand ⟨_,hv.1,rfl,n,rfl⟩ hl.are fun h' tk t' hk=>hQ _ _ (.sym _) (.kept hk) ⟨_,rfl⟩ h
 ·obtain ⟨_,_,rfl,⟨a,us,n,rfl,hv,hl⟩,hx⟩:=hx
  rw [show _=[] from hx]
  split at h
  ·rename_i e
   obtain ⟨bs,h1,h2⟩:=allB_has e hl
   refine all_rule r.hand ⟨_,hv.1,rfl,n,rfl⟩ h1 fun h' tk hk=>hQ _ _ _ (.kept hk) ?_ h
   rw [h2]; exact has_mkB _ _
  ·exact h.elim
 ·obtain ⟨_,_,rfl,⟨t,rfl⟩,hx⟩:=hx
  rw [show _=[] from hx]
  split at h
  ·rename_i e
   obtain ⟨hz,h⟩:=guardB_holds h
   exact KIN.call_text e (Nat.le_of_ble_eq_true hz) (hQ _ _ (.num _) (.tok _) ⟨_,rfl⟩ h)
  ·exact h.elim
 ·obtain ⟨_,_,rfl,⟨t,rfl⟩,_,_,rfl,⟨u,rfl⟩,hx⟩:=hx
  rw [show _=[] from hx]
  obtain ⟨hz,h⟩:=guardB_holds h
  simp only [Bool.and_eq_true,Bool.not_eq_true',List.isEmpty_eq_false_iff] at hz
  exact call_int_two hz.1.1 hz.1.2 (Nat.le_of_ble_eq_true hz.2) (hQ _ _ (.num _) (.tok _) ⟨_,rfl⟩ h)
 ·obtain ⟨_,_,rfl,⟨t,rfl⟩,hx⟩:=hx
  rw [show _=[] from hx]
  obtain ⟨hz,h⟩:=guardB_holds h
  have hb:=blt_lt hz
  refine PySem.P.str_of_int ?_ (hQ _ _ (.str _) (.tok _) ⟨_,rfl⟩ h)
  exact small_log2 hb
 ·obtain ⟨_,_,rfl,⟨a,t,u,x,rfl,hv⟩,hx⟩:=hx
  rw [show _=[] from hx]
  obtain ⟨hz,h⟩:=guardB_holds h
  obtain ⟨h1,h2,h3⟩:=rngOk_and hz
  refine call_list_range r.hand hv.1 h1 h2 h3 fun h' tk acc c' hk hn hi=>hQ _ _ (.lst _) (.kept hk) ⟨_,acc.toList,c',rfl,vis_new I (get_size _) ?_,?_⟩ h
  ·rw [hn]
  ·exact upFrom_has (by simpa using hi.1) fun j v hj=>hi.2 j v (by simpa using hj)
 ·exact h.elim
end Mine
end
section
open PySem.SeqAt
namespace Mine
variable {prog:Program} {w:World} {EO:Value→Shared→Prop} {F:Frm} {env:AEnv} {sl:SL} {ρ:List Addr} {s:Shared} {A:Around} {d:Nat}
theorem mem_of_lookup {α:Type} {x:Str} {a:α}:∀ {l:List (Str×α)},l.lookup x=some a→(x,a)∈l
 | [],h=>nomatch h
 | (y,b) :: l,h=>by
  rw [List.lookup_cons] at h
  cases e:x==y with
  | true=>
   rw [e] at h
   injection h with h
   subst h
   rw [eq_of_beq e]; simp
  | false=>
   rw [e] at h
   exact List.mem_cons_of_mem _ (mem_of_lookup h)
theorem own_set {n:Nat} {c c':AV} (hn:sl[n]?=some (Slot.own c)) (b:Addr):OwnA (sl.set n (Slot.own c')) ρ b↔OwnA sl ρ b:=by
 constructor
 ·rintro ⟨m,d,h1,h2⟩
  by_cases e:n=m
  ·subst e; exact ⟨n,c,hn,h2⟩
  ·rw [List.getElem?_set_ne e] at h1; exact ⟨m,d,h1,h2⟩
 ·rintro ⟨m,d,h1,h2⟩
  by_cases e:n=m
  ·subst e
   exact ⟨n,c',by rw [List.getElem?_set_self (List.getElem?_eq_some_iff.mp hn).1],h2⟩
  ·exact ⟨m,d,by rw [List.getElem?_set_ne e]; exact h1,h2⟩
theorem mut_set {n:Nat} {c c':AV} (hn:sl[n]?=some (Slot.own c)) (b:Addr):Mut F (sl.set n (Slot.own c')) ρ b↔Mut F sl ρ b:=by
 unfold Mut; rw [own_set hn]
theorem bad_set {n:Nat} {c c':AV} (hn:sl[n]?=some (Slot.own c)) (b:Addr):Bad F (sl.set n (Slot.own c')) ρ b↔Bad F sl ρ b:=by
 unfold Bad; rw [mut_set hn]
theorem vw_set {n:Nat} {c c':AV} (hn:sl[n]?=some (Slot.own c)) (h:Heap):Vw F (sl.set n (Slot.own c')) ρ h=Vw F sl ρ h:=by
 funext a o
 unfold Vw
 rw [bad_set hn]
theorem OwnAt.live {V:Vis} {h:Heap} {a:Addr}:∀ {c:AV},OwnAt prog w V ρ h a c→∃ o,h.get? a=some o
 | .lst _,⟨_,_,e,_⟩=>⟨_,e⟩
 | .dS _ _,⟨_,_,e,_⟩=>⟨_,e⟩
 | .dI _ _,⟨_,_,e,_⟩=>⟨_,e⟩
theorem SlotAt.calm' {V V':Vis} {h h':Heap} {a:Addr} (hV:∀ a o,V a o→V' a o) :
  ∀ {σ:Slot},SlotAt prog w V ρ h a σ→(∀ c,σ=.own c→∀ o,h.get? a=some o→h'.get? a=some o)→SlotAt prog w V' ρ h' a σ
 | .frz t,x,_=>Has.mono prog w hV (fun _ _ e=>e) t _ x
 | .own c,x,hk=>SlotAt.calm (σ:=.own c) hV (fun _ _ e=>e) (hk c rfl) x
theorem vis_store (I:Inv prog w F env sl ρ s) {n:Nat} {a:Addr} {c:AV} (hn:sl[n]?=some (Slot.own c)) (ha:ρ[n]?=some a) {h':Heap} (keep:∀ b o,b≠a→s.heap.get? b=some o→h'.get? b=some o) :
  ∀ b o,Vw F sl ρ s.heap b o→Vw F sl ρ h' b o:=fun b o h=>
 ⟨keep b o (fun e=>by subst e; exact h.2.1 (.inr (.inr (.inr ⟨n,c,hn,ha⟩)))) h.1,h.2⟩
theorem Inv.store (I:Inv prog w F env sl ρ s) {n:Nat} {a:Addr} {c c':AV} (hn:sl[n]?=some (Slot.own c)) (ha:ρ[n]?=some a) {s':Shared} (keep:∀ b o,b≠a→s.heap.get? b=some o→s'.heap.get? b=some o)
  (hg:s'.gens=s.gens) (hd:s'.drawn=s.drawn) (ho:s'.os=s.os) (hc:OwnAt prog w (Vw F sl ρ s'.heap) ρ s'.heap a c') :
  Inv prog w F env (sl.set n (Slot.own c')) ρ s'∧Evo F sl ρ s (sl.set n (Slot.own c')) ρ s':=by
 have own:OwnA sl ρ a:=⟨n,c,hn,ha⟩
 have hv:=vis_store I hn ha keep
 have hlt:=(List.getElem?_eq_some_iff.mp hn).1
 have hbad:Bad F sl ρ a:=.inr (.inr (.inr own))
 have apa:=I.ownNe a own
 refine ⟨⟨?_,I.sm,?_,?_,?_,I.kind,?_,?_,?_,?_,?_,I.locX,fun b h=>let ⟨o,e,d⟩:=I.frs b h; ⟨o,keep b o (fun q=>apa.2.2 (q ▸ F.frX b h)) e,d⟩⟩,⟨?_,hg,hd,ho,fun _ _ e=>e,fun b h=>.inl ((mut_set hn b).mp h),fun b o e=>by
  by_cases q:b=a
  ·subst q; exact hc.live
  ·exact ⟨o,keep b o q e⟩⟩⟩
 ·intro b o e
  refine keep b o (fun q=>?_) (I.base b o e)
  subst q
  rw [(I.low b hbad).1] at e; exact nomatch e
 ·intro b h
  have h:=(bad_set hn b).mp h
  refine ⟨(I.low b h).1,?_⟩
  by_cases e:b=a
  ·subst e; exact hc.live
  ·obtain ⟨o,e'⟩:=(I.low b h).2; exact ⟨o,keep b o e e'⟩
 ·rw [vw_set hn]
  obtain ⟨m,h1,h2⟩:=I.ns
  refine ⟨m,h1.at fun o e=>keep _ o (Ne.symm apa.1) e,fun x av e k=>?_⟩
  obtain ⟨v,e1,e2⟩:=h2 x av e k
  exact ⟨v,e1,Has.mono prog w hv (fun _ _ e=>e) av v e2⟩
 ·rw [vw_set hn]
  intro x av e k
  obtain ⟨q,v,e1,⟨o,e2,e3⟩,e4⟩:=I.cell x av e k
  refine ⟨q,v,e1,⟨o,keep q o (fun e=>?_) e2,e3⟩,Has.mono prog w hv (fun _ _ e=>e) av v e4⟩
  subst e
  exact apa.2.1 x (mem_of_lookup e1)
 ·intro x q e
  obtain ⟨⟨ov,o,h1,h2⟩,h3⟩:=I.cells x q e
  exact ⟨⟨ov,o,keep q o (fun z=>by subst z; exact apa.2.1 x e) h1,h2⟩,h3⟩
 ·rw [List.length_set]; exact I.len
 ·rw [vw_set hn]
  intro m b σ e1 e2
  by_cases e:n=m
  ·subst e
   rw [List.getElem?_set_self hlt] at e2
   injection e2 with e2
   subst e2
   rw [ha] at e1
   injection e1 with e1
   subst e1
   exact hc
  ·rw [List.getElem?_set_ne e] at e2
   refine (I.slots m b σ e1 e2).calm' hv fun d hd o ho=>keep b o (fun z=>?_) ho
   subst z hd
   exact e (I.apart n m b c d hn e2 ha e1)
 ·intro p q b d d' h1 h2 h3 h4
  have f:∀ p d,(sl.set n (Slot.own c'))[p]?=some (Slot.own d)→∃ e,sl[p]?=some (Slot.own e):=fun p d h=>by
   by_cases e:n=p
   ·subst e; exact ⟨c,hn⟩
   ·rw [List.getElem?_set_ne e] at h; exact ⟨d,h⟩
  obtain ⟨_,k1⟩:=f p d h1
  obtain ⟨_,k2⟩:=f q d' h2
  exact I.apart p q b _ _ k1 k2 h3 h4
 ·intro b h
  exact I.ownNe b ((own_set hn b).mp h)
 ·intro b o e hm
  exact .of (keep b o (fun q=>by subst q; exact hm (.inr (.inr own))) e)
theorem keep_sameBut {a:Addr} {h h':Heap} (x:Heap.SameBut a h h'):∀ b o,b≠a→h.get? b=some o→h'.get? b=some o:=fun b o e g=>(x.2 b e).trans g
end Mine
end
section
open PySem.SeqAt
open PySem.Builtin.Str (occurrences partsBetween)
namespace Mine
variable {prog:Program} {w:World} {EO:Value→Shared→Prop} {F:Frm} {env:AEnv} {sl:SL} {ρ:List Addr} {s:Shared} {A:Around} {d:Nat}
def MK.ty:MK→String
 | .get => "dict" | .setdefault => "dict" | .append => "list" | _ => "str"
def MK.id:MK→String
 | .get => "dict.get" | .setdefault => "dict.setdefault" | .append => "list.append" | .split => "str.split" | .count => "str.count" | .join => "str.join"
theorem mk_facts {m:Str} {k:MK} (h:mkOf m=some k):PlainAttrs k.ty∧PySem.Slot k.ty m k.id∧typeOf (.builtin k.id)=pure (.type "method_descriptor"):=by
 unfold mkOf at h
 split at h
 ·rename_i e; injection h with h; subst h; rw [eq_of_beq e]; exact ⟨PySem.F.plainAttrs_dict,PySem.F.slot_dict_get,PySem.F.type_dict_get⟩
 split at h
 ·rename_i e; injection h with h; subst h; rw [eq_of_beq e]; exact ⟨PySem.F.plainAttrs_str,PySem.F.slot_str_split,PySem.F.type_str_split⟩
 split at h
 ·rename_i e; injection h with h; subst h; rw [eq_of_beq e]; exact ⟨PySem.F.plainAttrs_str,PySem.F.slot_str_count,PySem.F.type_str_count⟩
 split at h
 ·rename_i e; injection h with h; subst h; rw [eq_of_beq e]; exact ⟨PySem.F.plainAttrs_str,PySem.F.slot_str_join,PySem.F.type_str_join⟩
 split at h
 ·rename_i e; injection h with h; subst h; rw [eq_of_beq e]; exact ⟨PySem.F.plainAttrs_list,PySem.F.slot_list_append,PySem.F.type_list_append⟩
 split at h
 ·rename_i e; injection h with h; subst h; rw [eq_of_beq e]; exact ⟨PySem.F.plainAttrs_dict,PySem.F.slot_dict_setdefault,PySem.F.type_dict_setdefault⟩
 ·exact nomatch h
theorem dv_type {V:Vis} {a:Addr} {dv:DV} (h:DVHas prog w V ρ s.heap a dv):s.TypeIs (.ref a) "dict" ∧ (∀ b,Value.ref a=.ref b→∃ ob,s.heap.get? b=some ob∧ob.dict=none):=by
 cases dv with
 | s ks l=>obtain ⟨o,vs,h1,h2,_⟩:=h; have e:=(Heap.dictOf_iff.mpr ⟨o,h1,h2⟩:s.heap.DictOf (PySem.strKind prog w) a _).mapOf; exact ⟨e.typeIs,e.noDict⟩
 | i ks l=>obtain ⟨o,vs,h1,h2,_⟩:=h; have e:=(Heap.dictOf_iff.mpr ⟨o,h1,h2⟩:s.heap.DictOf (intKind prog w) a _).mapOf; exact ⟨e.typeIs,e.noDict⟩
theorem onK_type {k:MK} {o:AV} {x:Value} (I:Inv prog w F env sl ρ s) (h:onK k sl o=true) (hx:Has prog w (Vw F sl ρ s.heap) ρ o x) :
  s.TypeIs x k.ty∧(∀ a,x=.ref a→∃ ob,s.heap.get? a=some ob∧ob.dict=none):=by
 have dct:(dictOfV sl o).isSome=true→s.TypeIs x "dict" ∧ (∀ a,x=.ref a→∃ ob,s.heap.get? a=some ob∧ob.dict=none):=fun h=>by
  obtain ⟨dv,e⟩:=Option.isSome_iff_exists.mp h
  obtain ⟨a,rfl,_,hd⟩:=dictOfV_has I e hx
  exact dv_type hd
 have st:isStrA o=true→s.TypeIs x "str" ∧ (∀ a,x=.ref a→∃ ob,s.heap.get? a=some ob∧ob.dict=none):=fun h=>by
  unfold isStrA at h
  split at h
  ·obtain ⟨t,rfl⟩:=hx
   exact ⟨typeIs_str _ _ _,fun a e=>nomatch e⟩
  ·exact nomatch h
 cases k with
 | get=>exact dct h
 | setdefault=>exact dct h
 | append=>
  obtain ⟨l,e⟩:=Option.isSome_iff_exists.mp h
  obtain ⟨a,vs,n,rfl,hv,_⟩:=itemsL_has I e hx
  exact ⟨⟨_,hv,rfl⟩,fun b e=>by injection e with e; subst e; exact ⟨_,hv,rfl⟩⟩
 | split=>exact st h
 | count=>exact st h
 | join=>exact st h
theorem split_rule {x y:Str} {t u:Tok} {Q E:Value→Shared→Prop} (hy:(y.length==0)=false)
  (h:∀ l k,l.map (·.1)=Txt.split x y→Q (.ref s.heap.objs.size) { s with heap:=s.heap.push { cls:=.type "list",data:=.seq (strValues l).toArray },toks:=k })
  (hsz:x.length+2≤sizeLine):wpAny (model prog w) A (call (.builtin "str.split") [.str x t,.str y u]) Q E s:=by
 have hn:(partsBetween x (occurrences x y 0 x.length (x.length+1)) y.length).length≤sizeLine:=by
  have e1:=StrLaws.occ_length_le x y 0 x.length (x.length+1)
  rw [length_partsBetween]; omega
 cases h1:(decide (x.length<y.length)||decide (PySem.Builtin.Str.strKind x<PySem.Builtin.Str.strKind y))
 ·cases hf:(occurrences x y 0 x.length (x.length+1)).isEmpty
  ·refine call_meets PySem.F.slot_str_split (typeIs_str _ _ _) PySem.F.entry_str_split (PySem.F.args_str_split_2 _ _) (meets_str_split_sep x y t u h1 hy hf (by omega) hn) ?_
   show wants Q E _ { s with toks:=_,heap:=s.heap.push { cls:=.type "list",data:=.seq (strsFrom s.toks (partsBetween x (occurrences x y 0 x.length (x.length+1)) y.length)).toArray } }
   rw [strsFrom_eq]
   exact h (numbered s.toks _) _ ((numbered_texts _ _).trans ((if_neg (ne_true_of_eq_false h1)).trans (if_neg (ne_true_of_eq_false hf))).symm)
  ·exact call_meets PySem.F.slot_str_split (typeIs_str _ _ _) PySem.F.entry_str_split (PySem.F.args_str_split_2 _ _) (meets_str_split_not_found x y t u h1 hy hf)
    (h [(x,t)] s.toks ((if_neg (ne_true_of_eq_false h1)).trans (if_pos hf)).symm)
 ·exact call_meets PySem.F.slot_str_split (typeIs_str _ _ _) PySem.F.entry_str_split (PySem.F.args_str_split_2 _ _) (meets_str_split_cannot_occur x y t u h1)
   (h [(x,t)] s.toks (if_pos h1).symm)
theorem strs_hasL {V:Vis}:∀ {l:List (Str×Tok)},HasL prog w V ρ ((l.map (·.1)).map AV.str) (strValues l)
 | []=>rfl
 | (x,t) :: l=>⟨_,_,rfl,⟨t,rfl⟩,strs_hasL⟩
theorem strsAre_values:∀ {vs:List Value} {m:List Str},StrsAre vs m→∃ l:List (Str×Tok),l.map (·.1)=m∧strValues l=vs
 | _,_,.nil=>⟨[],rfl,rfl⟩
 | _,_,.cons y t h=>by
  obtain ⟨l,h1,h2⟩:=strsAre_values h
  exact ⟨(y,t) :: l,by simp [h1],by rw [← h2]; rfl⟩
theorem stored_new {K:Type} [DecidableEq K] {ks:List K} {vs:List Value} {k:K} {v:Value} (h:valueAt (ks.zip vs) k=none) (hl:ks.length=vs.length):stored (ks.zip vs) k v=(ks++[k]).zip (vs++[v]):=by
 rw [PyProof.Rows.stored_absent h,List.zip_append hl]; rfl
theorem isDictOf_nil {o:Obj} {K K':Type} [DecidableEq K] [DecidableEq K'] {knd:KeyKind prog w K} {knd':KeyKind prog w K'} (h:o.IsDictOf knd []):o.IsDictOf knd' []:=by
 obtain ⟨es,ep,h1,h2,h3,h4,h5⟩:=h
 obtain ⟨l⟩:=es
 cases l with
 | nil=>exact ⟨#[],ep,h1,h2,fun e he=>by simp at he,.nil,by simp⟩
 | cons e r=>cases h4
theorem own_dI {ks:List Int} {l:List AV} {vs:List Value} {V:Vis} {h:Heap} {a:Addr} (hd:h.DictOf (intKind prog w) a (ks.zip vs)) (hl:ks.length=vs.length) (hh:HasL prog w V ρ l vs):OwnAt prog w V ρ h a (.dI ks l):=by
 obtain ⟨o,h1,h2⟩:=Heap.dictOf_iff.mp hd
 exact ⟨o,vs,h1,h2,hl,hh⟩
theorem own_dS {ks:List Str} {l:List AV} {vs:List Value} {V:Vis} {h:Heap} {a:Addr} (hd:h.DictOf (PySem.strKind prog w) a (ks.zip vs)) (hl:ks.length=vs.length) (hh:HasL prog w V ρ l vs):OwnAt prog w V ρ h a (.dS ks l):=by
 obtain ⟨o,h1,h2⟩:=Heap.dictOf_iff.mp hd
 exact ⟨o,vs,h1,h2,hl,hh⟩
theorem treeI_noexc (x:Int) (v:AV):∀ (ks:List Int) (l:List AV),NoExc (treeI ks l x (.ret v))
 | [],_=>trivial
 | _ :: _,[]=>trivial
 | _ :: ks,_ :: l=>⟨trivial,treeI_noexc x v ks l⟩
theorem callMK_sound {k:MK} {o:AV} {x:Value} {args:List AV} {vs:List Value} (I:Inv prog w F env sl ρ s) (ho:Has prog w (Vw F sl ρ s.heap) ρ o x) (hx:HasL prog w (Vw F sl ρ s.heap) ρ args vs) {P:Option SL×AV→Prop} {X:Prop} {Q E:Value→Shared→Prop}
  (h:(callMK k sl o args).Holds P X) (hQ:∀ v s',QE prog w F env sl ρ s P v s'→Q v s'):wpAny (model prog w) A (call (.builtin k.id) (x :: vs)) Q E s:=by
 unfold callMK at h
 split at h
 ·split at h
  ·rename_i kk df _ dv e
   obtain ⟨a,rfl,hs,hd⟩:=dictOfV_has I e ho
   obtain ⟨key,_,rfl,hk,dval,_,rfl,hdf,hx⟩:=hx
   rw [show _=[] from hx]
   have h:=pureE_holds h
   have h:(getD dv kk (some df)).Holds (fun v=>P (none,v)) False:=by
    have nx:∀ (Pr:AV→Prop),(getD dv kk (some df)).Holds Pr X→(getD dv kk (some df)).Holds Pr False:=fun Pr=>NoExc.holds (by
     unfold getD
     repeat' (first | trivial | exact treeI_noexc _ _ _ _ | split))
    exact nx _ h
   obtain ⟨K,_,knd,kk',f,e1,e2,av,e3,e4⟩:=getD_got (df:=some df) (dval:=some dval) hd hk ⟨dval,rfl,hdf⟩ h
   exact call_meetsIn PySem.F.slot_dict_get e2.typeIs PySem.F.entry_dict_get (PySem.F.args_dict_get_3 _ _ _) (meets_dict_get_default knd a e1 hs dval) ⟨f,e2,hQ _ _ (qe_calm I (.tok _) e3 e4)⟩
  ·exact h.elim
 ·obtain ⟨t,rfl⟩:=ho
  obtain ⟨_,_,rfl,⟨u,rfl⟩,hx⟩:=hx
  rw [show _=[] from hx]
  obtain ⟨hz,h⟩:=guardB_holds h
  simp only [Bool.and_eq_true,Bool.not_eq_true'] at hz
  have hb:=blt_lt hz.1
  refine split_rule hz.2 (fun l k e=>hQ _ _ (qe_calm I (.push _ _) (av:=.lst _) ⟨_,strValues l,0,rfl,vis_new I (get_size _) (Heap.get?_push_size _ rfl),?_⟩ h)) (size_line (by omega))
  rw [← e]; exact strs_hasL
 ·obtain ⟨t,rfl⟩:=ho
  obtain ⟨_,_,rfl,⟨u,rfl⟩,hx⟩:=hx
  rw [show _=[] from hx]
  exact SC.count (hQ _ _ (qe_calm I (.tok _) (av:=.num _) ⟨_,rfl⟩ h))
 ·split at h
  ·rename_i ts e
   obtain ⟨t,rfl⟩:=ho
   obtain ⟨_,_,rfl,⟨a,us,n,rfl,hv,hl⟩,hx⟩:=hx
   rw [show _=[] from hx]
   obtain ⟨hz,h⟩:=guardB_holds h
   obtain ⟨l,e1,e2⟩:=strsAre_values (strsOf_has e hl)
   exact SC.join (l:=l) ⟨_,hv.1,rfl,n,by rw [e2]⟩ e1 hz fun t' k=>hQ _ _ (qe_calm I (.tok _) (av:=.str _) ⟨_,rfl⟩ h)
  ·exact h.elim
 ·split at h
  ·rename_i n v _ l e
   obtain ⟨hz,h⟩:=guardB_holds h
   have hb:=blt_lt hz
   obtain ⟨a,rfl,hr,us,m,h1,h2⟩:=I.slot ho e
   obtain ⟨val,_,rfl,hv,hx⟩:=hx
   rw [show _=[] from hx]
   have hl:=h2.length
   refine append_at h1 (fun h' hs hg=>?_) (by rw [sizeLine_eq]; simp; omega)
   have ks:=keep_sameBut hs
   have hvs:=vis_store I e hr ks
   have hc:OwnAt prog w (Vw F sl ρ h') ρ h' a (.lst (l++[v])):=by
    refine ⟨us++[val],m+1,by rw [hg]; simp,?_⟩
    exact (HasL.mono prog w hvs (fun _ _ e=>e) _ _ h2).append ⟨val,[],rfl,Has.mono prog w hvs (fun _ _ e=>e) _ _ hv,rfl⟩
   obtain ⟨I',ev⟩:=I.store (s':={ s with heap:=h' }) e hr ks rfl rfl rfl hc
   exact hQ _ _ ⟨some _,.none,ρ,I',rfl,ev,h⟩
  ·exact h.elim
 ·split at h
  ·rename_i n df _ _ ks l y e
   obtain ⟨a,rfl,hr,ob,us,h1,h2,h3,h4⟩:=I.slot ho e
   obtain ⟨_,_,rfl,⟨t,rfl⟩,dval,_,rfl,hdf,hx⟩:=hx
   rw [show _=[] from hx]
   have hs:=I.ownNotSm e hr
   have hd:s.heap.DictOf (intKind prog w) a (ks.zip us):=Heap.dictOf_iff.mpr ⟨ob,h1,h2⟩
   have lk:=lookI_has (x:=y) h4 h3
   split at h
   ·rename_i av e1
    rw [e1] at lk
    obtain ⟨v,e2,e3⟩:=lk
    obtain ⟨hz,h⟩:=guardB_holds h
    have hb:=blt_lt hz
    have hlen:(ks.zip us).length≤sizeLine:=by rw [List.length_zip,← h3,Nat.min_self]; exact size_line (by omega)
    exact call_meetsIn PySem.F.slot_dict_setdefault hd.typeIs PySem.F.entry_dict_setdefault (PySem.F.args_dict_setdefault_3 _ _ _) (kt_meets_setdefault (intKind prog w) a (intKind_is prog w y t) hs dval)
     ⟨_,hd,hlen,fun v' hv'=>by rw [e2] at hv'; injection hv' with hv'; subst hv'; exact hQ _ _ (qe_calm I (.tok _) e3 h),fun hn=>by rw [e2] at hn; cases hn⟩
   ·rename_i e1
    rw [e1] at lk
    obtain ⟨hz,h⟩:=guardB_holds h
    have hb:=blt_lt hz
    refine call_meetsIn PySem.F.slot_dict_setdefault hd.typeIs PySem.F.entry_dict_setdefault (PySem.F.args_dict_setdefault_3 _ _ _) (kt_meets_setdefault (intKind prog w) a (intKind_is prog w y t) hs dval)
     ⟨_,hd,by rw [List.length_zip,← h3,Nat.min_self]; exact size_line (by omega),fun v' hv'=>(by rw [lk] at hv'; cases hv'),fun hn h' hd' hsb=>?_⟩
    have kp:=keep_sameBut hsb
    have hvs:=vis_store I e hr kp
    rw [stored_new lk h3] at hd'
    have hc:OwnAt prog w (Vw F sl ρ h') ρ h' a (.dI (ks++[y]) (l++[df])):=
     own_dI hd' (by simp [h3]) ((HasL.mono prog w hvs (fun _ _ e=>e) _ _ h4).append ⟨dval,[],rfl,Has.mono prog w hvs (fun _ _ e=>e) _ _ hdf,rfl⟩)
    obtain ⟨I',ev⟩:=I.store (s':={ s with heap:=h',toks:=s.toks+1 }) e hr kp rfl rfl rfl hc
    exact hQ _ _ ⟨some _,df,ρ,I',ev.has hdf,ev,h⟩
  ·rename_i n df _ _ y e
   obtain ⟨a,rfl,hr,ob,us,h1,h2,h3,h4⟩:=I.slot ho e
   obtain ⟨_,_,rfl,⟨t,rfl⟩,dval,_,rfl,hdf,hx⟩:=hx
   rw [show _=[] from hx]
   have hs:=I.ownNotSm e hr
   rw [show us=[] from h4] at h2
   have hd:s.heap.DictOf (intKind prog w) a []:=Heap.dictOf_iff.mpr ⟨ob,h1,isDictOf_nil h2⟩
   refine call_meetsIn PySem.F.slot_dict_setdefault hd.typeIs PySem.F.entry_dict_setdefault (PySem.F.args_dict_setdefault_3 _ _ _) (kt_meets_setdefault (intKind prog w) a (intKind_is prog w y t) hs dval)
     ⟨_,hd,Nat.zero_le _,fun v' hv'=>(by simp [valueAt] at hv'),fun hn h' hd' hsb=>?_⟩
   have kp:=keep_sameBut hsb
   have hvs:=vis_store I e hr kp
   have hc:OwnAt prog w (Vw F sl ρ h') ρ h' a (.dI [y] [df]):=
    own_dI (ks:=[y]) (vs:=[dval]) hd' rfl ⟨dval,[],rfl,Has.mono prog w hvs (fun _ _ e=>e) _ _ hdf,rfl⟩
   obtain ⟨I',ev⟩:=I.store (s':={ s with heap:=h',toks:=s.toks+1 }) e hr kp rfl rfl rfl hc
   exact hQ _ _ ⟨some _,df,ρ,I',ev.has hdf,ev,h⟩
  ·exact h.elim
 ·exact h.elim
end Mine
end
section
open PySem.SeqAt
namespace Mine
variable {prog:Program} {w:World} {EO:Value→Shared→Prop} {F:Frm} {env:AEnv} {sl:SL} {ρ:List Addr} {s:Shared} {A:Around} {d:Nat}
theorem pureOf_holds:∀ {x:RE} {p:Prop} {u:AV} {X:Prop},pureOf x=some (p,u)→p→x.Holds (fun q=>q=(none,u)) X
 | .ret (none,v),p,u,X,h,hp=>by
  simp only [pureOf,Option.some.injEq,Prod.mk.injEq] at h
  rw [← h.2]; exact rfl
 | .ret (some _,v),p,u,X,h,hp=>by simp only [pureOf,reduceCtorEq] at h
 | .need q x,p,u,X,h,hp=>by
  simp only [pureOf] at h
  split at h
  ·rename_i e
   simp only [Option.some.injEq,Prod.mk.injEq] at h
   obtain ⟨h1,h2⟩:=h
   subst h1 h2
   exact ⟨hp.1,pureOf_holds e hp.2⟩
  ·exact nomatch h
 | .ite _ _ _,p,u,X,h,hp=>by simp only [pureOf,reduceCtorEq] at h
 | .exc,p,u,X,h,hp=>by simp only [pureOf,reduceCtorEq] at h
 | .fail,p,u,X,h,hp=>by simp only [pureOf,reduceCtorEq] at h
section
variable (prog:Program) (w:World) (EO:Value→Shared→Prop)
def QB (F:Frm) (env:AEnv) (sl:SL) (ρ:List Addr) (s:Shared) (P:Option SL×AV→Prop) (b:Bool) (s':Shared):Prop:=QE prog w F env sl ρ s P (.bool b) s'
def TriB (F:Frm) (env:AEnv) (sl:SL) (ρ:List Addr) (s:Shared) (A:Around) (x:RE) (t:Sem Bool):Prop:=
 ∀ (P:Option SL×AV→Prop) (X:Prop) (Q:Bool→Shared→Prop) (E:Value→Shared→Prop),x.Holds (fun p=>(boolOf p.2).isSome=true∧P p) X→(∀ b s',QB prog w F env sl ρ s P b s'→Q b s')→OnExc prog w EO F sl ρ s X E→wpAny (model prog w) A t Q E s
def Ok (F:Frm) (env:AEnv) (A:Around) (ev:Expr→SL→RE):Prop:=∀ e sl ρ s,Inv prog w F env sl ρ s→Tri prog w EO F env sl ρ s A (ev e sl) (eval e F.env)
def OkB (F:Frm) (env:AEnv) (A:Around) (ev:Expr→SL→RE):Prop:=∀ e sl ρ s,Inv prog w F env sl ρ s→TriB prog w EO F env sl ρ s A (ev e sl) (isTrue e F.env (eval e F.env))
end
theorem boolOf_some {V:Vis} {a:AV} {v:Value} (h:(boolOf a).isSome=true) (hv:Has prog w V ρ a v):∃ b c,boolOf a=some (b,c)∧v=.bool b:=by
 obtain ⟨⟨b,c⟩,e⟩:=Option.isSome_iff_exists.mp h
 exact ⟨b,c,e,boolOf_has e hv⟩
theorem Tri.fail {t:Sem Value}:Tri prog w EO F env sl ρ s A .fail t:=fun _ _ _ _ h _ _=>h.elim
theorem Tri.ret {x:AV} {t:Sem Value} (I:Inv prog w F env sl ρ s) (h:∀ Q E,(∀ v s',Calm F sl ρ s s'→Has prog w (Vw F sl ρ s'.heap) ρ x v→Q v s')→wpAny (model prog w) A t Q E s):Tri prog w EO F env sl ρ s A (.ret (none,x)) t:=
 fun _ _ Q E hp hQ _=>h Q E fun v s' c hv=>hQ v s' (qe_calm I c hv hp)
theorem QE.sub {P P':Option SL×AV→Prop} {v:Value} {s':Shared} (h:QE prog w F env sl ρ s P v s') (hp:∀ q,P q→P' q):QE prog w F env sl ρ s P' v s':=by
 obtain ⟨o,av,ρ',h1,h2,h3,h4⟩:=h
 exact ⟨o,av,ρ',h1,h2,h3,hp _ h4⟩
theorem Tri.ite {b:Bool} {x y:RE} {t:Sem Value} (h1:b=true→Tri prog w EO F env sl ρ s A x t) (h2:b=false→Tri prog w EO F env sl ρ s A y t):Tri prog w EO F env sl ρ s A (.ite b x y) t:=
 fun P X Q E h hQ hE=>by
  cases b with
  | true=>exact h1 rfl P X Q E (h.1 rfl) hQ hE
  | false=>exact h2 rfl P X Q E (h.2 rfl) hQ hE
theorem TriB.ite {b:Bool} {x y:RE} {t:Sem Bool} (h1:b=true→TriB prog w EO F env sl ρ s A x t) (h2:b=false→TriB prog w EO F env sl ρ s A y t):TriB prog w EO F env sl ρ s A (.ite b x y) t:=
 fun P X Q E h hQ hE=>by
  cases b with
  | true=>exact h1 rfl P X Q E (h.1 rfl) hQ hE
  | false=>exact h2 rfl P X Q E (h.2 rfl) hQ hE
theorem Tri.pre {x:RE} {t t':Sem Value} (h:Tri prog w EO F env sl ρ s A x t) (k:∀ Q E,wpAny (model prog w) A t Q E s→wpAny (model prog w) A t' Q E s):Tri prog w EO F env sl ρ s A x t':=
 fun P X Q E hh hQ hE=>k _ _ (h P X Q E hh hQ hE)
theorem TriB.pre {x:RE} {t t':Sem Bool} (h:TriB prog w EO F env sl ρ s A x t) (k:∀ Q E,wpAny (model prog w) A t Q E s→wpAny (model prog w) A t' Q E s):TriB prog w EO F env sl ρ s A x t':=
 fun P X Q E hh hQ hE=>k _ _ (h P X Q E hh hQ hE)
theorem qb_ret {P:Option SL×AV→Prop} {av:AV} {b:Bool} (I:Inv prog w F env sl ρ s) (hv:Has prog w (Vw F sl ρ s.heap) ρ av (.bool b)) (h:P (none,av)):QB prog w F env sl ρ s P b s:=
 qe_calm I (.tok s.toks) hv h
theorem TriB.seq {x:RE} {k:AV→SL→RE} {t:Sem Value} {u:Value→Sem Bool} (hx:Tri prog w EO F env sl ρ s A x t)
  (hk:∀ v av sl₁ ρ₁ s₁,Inv prog w F env sl₁ ρ₁ s₁→Has prog w (Vw F sl₁ ρ₁ s₁.heap) ρ₁ av v→Evo F sl ρ s sl₁ ρ₁ s₁→TriB prog w EO F env sl₁ ρ₁ s₁ A (k av sl₁) (u v))
  {P:Option SL×AV→Prop} {X:Prop} {Q:Bool→Shared→Prop} {E:Value→Shared→Prop} (h:(seqE x sl k).Holds (fun p=>(boolOf p.2).isSome=true∧P p) X) (hQ:∀ v s',QB prog w F env sl ρ s P v s'→Q v s') (hE:OnExc prog w EO F sl ρ s X E) :
  wpAny (model prog w) A t (fun v s₁=>wpAny (model prog w) A (u v) Q E s₁) E s:=by
 refine hx _ X _ _ (seqE_holds h) (fun v s₁ h₁=>?_) hE
 obtain ⟨o,av,ρ₁,I,hv,ev,hp⟩:=h₁
 refine hk v av _ ρ₁ s₁ I hv ev (fun q=>P (combO o q.1,q.2)) X _ _ hp (fun v' s₂ h₂=>hQ v' s₂ ?_) (hE.after ev)
 obtain ⟨o₂,av₂,ρ₂,I₂,hv₂,ev₂,hp₂⟩:=h₂
 refine ⟨combO o o₂,av₂,ρ₂,?_,?_,?_,hp₂⟩<;>rw [combO_getD]
 ·exact I₂
 ·exact hv₂
 ·exact ev.trans ev₂
theorem TriB.then {x:RE} {k:AV→SL→RE} {t:Sem Bool} {u:Bool→Sem Value} (hx:TriB prog w EO F env sl ρ s A x t)
  (hb:∀ av sl,(boolOf av).isSome=false→∀ P X,¬ (k av sl).Holds P X)
  (hk:∀ b av sl₁ ρ₁ s₁,Inv prog w F env sl₁ ρ₁ s₁→Has prog w (Vw F sl₁ ρ₁ s₁.heap) ρ₁ av (.bool b)→Evo F sl ρ s sl₁ ρ₁ s₁→Tri prog w EO F env sl₁ ρ₁ s₁ A (k av sl₁) (u b))
  {P:Option SL×AV→Prop} {X:Prop} {Q E:Value→Shared→Prop} (h:(seqE x sl k).Holds P X) (hQ:∀ v s',QE prog w F env sl ρ s P v s'→Q v s') (hE:OnExc prog w EO F sl ρ s X E) :
  wpAny (model prog w) A t (fun v s₁=>wpAny (model prog w) A (u v) Q E s₁) E s:=by
 have hh:x.Holds (fun p=>(boolOf p.2).isSome=true∧(k p.2 (p.1.getD sl)).Holds (fun q=>P (combO p.1 q.1,q.2)) X) X:=
  R.holds_mono (fun q hq=>⟨by
   cases e:(boolOf q.2).isSome with
   | true=>rfl
   | false=>exact (hb _ _ e _ _ hq).elim,hq⟩) id (seqE_holds h)
 refine hx _ X _ _ hh (fun v s₁ h₁=>?_) hE
 obtain ⟨o,av,ρ₁,I,hv,ev,hp⟩:=h₁
 refine hk v av _ ρ₁ s₁ I hv ev _ X _ _ hp (fun v' s₂ h₂=>hQ v' s₂ ?_) (hE.after ev)
 obtain ⟨o₂,av₂,ρ₂,I₂,hv₂,ev₂,hp₂⟩:=h₂
 refine ⟨combO o o₂,av₂,ρ₂,?_,?_,?_,hp₂⟩<;>rw [combO_getD]
 ·exact I₂
 ·exact hv₂
 ·exact ev.trans ev₂
theorem TriB.thenB {x:RE} {k:AV→SL→RE} {t:Sem Bool} {u:Bool→Sem Bool} (hx:TriB prog w EO F env sl ρ s A x t)
  (hb:∀ av sl,(boolOf av).isSome=false→∀ P X,¬ (k av sl).Holds P X)
  (hk:∀ b av sl₁ ρ₁ s₁,Inv prog w F env sl₁ ρ₁ s₁→Has prog w (Vw F sl₁ ρ₁ s₁.heap) ρ₁ av (.bool b)→Evo F sl ρ s sl₁ ρ₁ s₁→TriB prog w EO F env sl₁ ρ₁ s₁ A (k av sl₁) (u b))
  {P:Option SL×AV→Prop} {X:Prop} {Q:Bool→Shared→Prop} {E:Value→Shared→Prop} (h:(seqE x sl k).Holds (fun p=>(boolOf p.2).isSome=true∧P p) X) (hQ:∀ v s',QB prog w F env sl ρ s P v s'→Q v s') (hE:OnExc prog w EO F sl ρ s X E) :
  wpAny (model prog w) A t (fun v s₁=>wpAny (model prog w) A (u v) Q E s₁) E s:=by
 have hh:x.Holds (fun p=>(boolOf p.2).isSome=true∧(k p.2 (p.1.getD sl)).Holds (fun q=>(boolOf (combO p.1 q.1,q.2).2).isSome=true∧P (combO p.1 q.1,q.2)) X) X:=
  R.holds_mono (fun q hq=>⟨by
   cases e:(boolOf q.2).isSome with
   | true=>rfl
   | false=>exact (hb _ _ e _ _ hq).elim,hq⟩) id (seqE_holds h)
 refine hx _ X _ _ hh (fun v s₁ h₁=>?_) hE
 obtain ⟨o,av,ρ₁,I,hv,ev,hp⟩:=h₁
 refine hk v av _ ρ₁ s₁ I hv ev (fun q=>P (combO o q.1,q.2)) X _ _ hp (fun v' s₂ h₂=>hQ v' s₂ ?_) (hE.after ev)
 obtain ⟨o₂,av₂,ρ₂,I₂,hv₂,ev₂,hp₂⟩:=h₂
 refine ⟨combO o o₂,av₂,ρ₂,?_,?_,?_,hp₂⟩<;>rw [combO_getD]
 ·exact I₂
 ·exact hv₂
 ·exact ev.trans ev₂
theorem evL_ok {ev:Expr→SL→RE} (hev:Ok prog w EO F env A ev) (pos:Pos):∀ (es:List Expr) (sl:SL) (ρ:List Addr) (s:Shared),Inv prog w F env sl ρ s→TriL prog w EO F env sl ρ s A (evL ev es sl) (spliced (backTo pos (starEach es F.env)))
 | [],sl,ρ,s,I=>fun P X Q E h hQ _=>spliced_nil (hQ _ _ ⟨none,[],ρ,I,rfl,.refl ..,h⟩)
 | e :: r,sl,ρ,s,I=>by
  have main:(∀ x p,e≠.Starred x p)→TriL prog w EO F env sl ρ s A (evL ev (e :: r) sl) (spliced (backTo pos (starEach (e :: r) F.env))):=fun hne P X Q E h hQ hE=>by
   have e1:evL ev (e :: r) sl=seqL (ev e sl) sl fun v sl=>(evL ev r sl).bind fun q=>.ret (q.1,v :: q.2):=by
    cases e<;>first | rfl | exact absurd rfl (hne _ _)
   have e2:starEach (e :: r) F.env=(false,eval e F.env) :: starEach r F.env:=by
    cases e<;>first | rfl | exact absurd rfl (hne _ _)
   rw [e1] at h
   rw [e2]
   show wpAny _ _ (spliced ((false,eval e F.env) :: backTo pos (starEach r F.env))) _ _ _
   refine spliced_cons ?_
   refine hev e sl ρ s I _ X _ _ (seqL_holds h) (fun v s₁ h₁=>?_) hE
   obtain ⟨o,av,ρ₁,I₁,hv,ev₁,hp⟩:=h₁
   refine evL_ok hev pos r _ ρ₁ s₁ I₁ _ X _ _ (R.holds_bind hp) (fun vs s₂ h₂=>hQ _ _ ?_) (hE.after ev₁)
   obtain ⟨o₂,avs,ρ₂,I₂,hvs,ev₂,hp₂⟩:=h₂
   refine ⟨combO o o₂,av :: avs,ρ₂,?_,?_,?_,hp₂⟩<;>rw [combO_getD]
   ·exact I₂
   ·exact ⟨v,vs,rfl,ev₂.has hv,hvs⟩
   ·exact ev₁.trans ev₂
  cases e with
  | Starred x p=>exact fun P X Q E h _ _=>h.elim
  | _=>exact main (fun x p h=>nomatch h)
end Mine
end
section
open PySem.SeqAt
namespace Mine
variable {prog:Program} {w:World} {EO:Value→Shared→Prop} {F:Frm} {env:AEnv} {sl:SL} {ρ:List Addr} {s:Shared} {A:Around} {d:Nat}
theorem boolE_cons (op:BoolOp) (ev:Expr→SL→RE) (e e':Expr) (r:List Expr) (sl:SL):boolE op ev (e :: e' :: r) sl=seqE (ev e sl) sl fun v sl=>boolK op (boolE op ev (e' :: r) sl) v:=rfl
theorem qe_pure {P:Option SL×AV→Prop} {u av:AV} {v:Value} {s':Shared} (h:QE prog w F env sl ρ s (fun q=>q=(none,u)) v s') (hv:∀ V ρ',Has prog w V ρ' u v→Has prog w V ρ' av v) (hp:P (none,av)):QE prog w F env sl ρ s P v s':=by
 obtain ⟨o,av',ρ',h1,h2,h3,h4⟩:=h
 injection h4 with h4 h5
 subst h4 h5
 exact ⟨none,av,ρ',h1,hv _ _ h2,h3,hp⟩
theorem boolK_ok {op:BoolOp} {rest:RE} {t:Sem Value} {v:Value} {av:AV} (I:Inv prog w F env sl ρ s) (hv:Has prog w (Vw F sl ρ s.heap) ρ av v) (hr:Tri prog w EO F env sl ρ s A rest t) :
  ∀ {u:Sem Value},(∀ b,v=.bool b→∀ Q E,wpAny (model prog w) A (match op,b with | .And,false=>pure v | .Or,true=>pure v | _,_=>t) Q E s→wpAny (model prog w) A u Q E s)→Tri prog w EO F env sl ρ s A (boolK op rest av) u:=by
 intro u hu
 cases av with
 | bool b=>
  have e:v=.bool b:=hv
  refine Tri.pre ?_ (hu b e)
  cases op<;>cases b
  ·exact Tri.ret I fun Q E k=>wpAny_pure (k _ _ (.tok s.toks) hv)
  ·exact hr
  ·exact hr
  ·exact Tri.ret I fun Q E k=>wpAny_pure (k _ _ (.tok s.toks) hv)
 | sb b=>
  have e:v=.bool b:=hv
  refine Tri.pre ?_ (hu b e)
  intro P X Q E h hQ hE
  simp only [boolK] at h
  split at h
  ·rename_i p u' hp
   split at h
   ·rename_i c t' hc
    obtain ⟨h1,h2⟩:=h
    cases b with
    | false=>exact wpAny_pure (hQ _ _ (qe_calm I (.tok s.toks) (av:=.sb (false&&c)) hv h2))
    | true=>
     refine hr _ False Q E (pureOf_holds hp (h1 rfl)) (fun v' s' hq=>hQ _ _ (qe_pure hq (fun V ρ' hh=>?_) h2)) (fun hX=>hX.elim)
     rw [boolOf_has hc hh]; rfl
   ·exact h.elim
  ·rename_i p u' hp
   split at h
   ·rename_i c t' hc
    obtain ⟨h1,h2⟩:=h
    cases b with
    | true=>exact wpAny_pure (hQ _ _ (qe_calm I (.tok s.toks) (av:=.sb (true||c)) hv h2))
    | false=>
     refine hr _ False Q E (pureOf_holds hp (h1 rfl)) (fun v' s' hq=>hQ _ _ (qe_pure hq (fun V ρ' hh=>?_) h2)) (fun hX=>hX.elim)
     rw [boolOf_has hc hh]; rfl
   ·exact h.elim
  ·cases b with
   | false=>exact wpAny_pure (hQ _ _ (qe_calm I (.tok s.toks) (av:=.bool false) hv (h.2 rfl)))
   | true=>exact hr P X Q E (h.1 rfl) hQ hE
  ·cases b with
   | true=>exact wpAny_pure (hQ _ _ (qe_calm I (.tok s.toks) (av:=.bool true) hv (h.1 rfl)))
   | false=>exact hr P X Q E (h.2 rfl) hQ hE
 | _=>exact Tri.fail
theorem boolE_ok {ev:Expr→SL→RE} (hev:Ok prog w EO F env A ev) (pos:Pos) (op:BoolOp):∀ (es:List Expr) (sl:SL) (ρ:List Addr) (s:Shared),Inv prog w F env sl ρ s→Tri prog w EO F env sl ρ s A (boolE op ev es sl) (boolOp pos op (evalEach es F.env))
 | [],_,_,_,_=>Tri.fail
 | [e],sl,ρ,s,I=>hev e sl ρ s I
 | e :: e' :: r,sl,ρ,s,I=>fun P X Q E h hQ hE=>by
  rw [boolE_cons] at h
  refine wpAny_bind (Tri.seq (u:=fun v=>(do standAt pos; let t ← holding [v] (truthy v); match op,t with | .And,false | .Or,true=>pure v | _,_=>boolOp pos op (evalEach (e' :: r) F.env))) (hev e sl ρ s I) (fun v av sl₁ ρ₁ s₁ I₁ hv ev₁=>?_) h hQ hE)
  refine boolK_ok I₁ hv (boolE_ok hev pos op (e' :: r) sl₁ ρ₁ s₁ I₁) fun b e Q' E' k=>?_
  subst e
  refine wpAny_bind (wpAny_standAt (wpAny_bind (wpAny_holding (wpAny_truthy_bool ?_))))
  cases op<;>cases b<;>exact k
theorem qb_pure {P:Option SL×AV→Prop} {u av:AV} {b:Bool} {s':Shared} (h:QB prog w F env sl ρ s (fun q=>q=(none,u)) b s') (hv:∀ V ρ',Has prog w V ρ' u (.bool b)→Has prog w V ρ' av (.bool b)) (hp:P (none,av)):QB prog w F env sl ρ s P b s':=qe_pure h hv hp
theorem boolK_okB {op:BoolOp} {rest:RE} {t:Sem Bool} {b:Bool} {av:AV} (I:Inv prog w F env sl ρ s) (hv:Has prog w (Vw F sl ρ s.heap) ρ av (.bool b)) (hr:TriB prog w EO F env sl ρ s A rest t) :
  ∀ {u:Sem Bool},(∀ Q E,wpAny (model prog w) A (match op,b with | .And,false=>pure false | .Or,true=>pure true | _,_=>t) Q E s→wpAny (model prog w) A u Q E s)→TriB prog w EO F env sl ρ s A (boolK op rest av) u:=by
 intro u hu
 cases av with
 | bool c=>
  have e:Value.bool b=.bool c:=hv
  injection e with e
  subst e
  refine TriB.pre ?_ hu
  cases op<;>cases b
  ·exact fun P X Q E h hQ _=>wpAny_pure (hQ _ _ (qb_ret I hv h.2))
  ·exact hr
  ·exact hr
  ·exact fun P X Q E h hQ _=>wpAny_pure (hQ _ _ (qb_ret I hv h.2))
 | sb c=>
  have e:Value.bool b=.bool c:=hv
  injection e with e
  subst e
  refine TriB.pre ?_ hu
  intro P X Q E h hQ hE
  simp only [boolK] at h
  split at h
  ·rename_i p u' hp
   split at h
   ·rename_i c t' hc
    obtain ⟨h1,_,h2⟩:=h
    cases b with
    | false=>exact wpAny_pure (hQ _ _ (qb_ret (av:=.sb (false&&c)) I hv h2))
    | true=>
     refine hr (fun q=>q=(none,u')) False Q E (R.holds_mono (fun q hq=>⟨by rw [hq,hc]; rfl,hq⟩) id (pureOf_holds hp (h1 rfl))) (fun v' s' hq=>hQ _ _ (qb_pure hq (fun V ρ' hh=>?_) h2)) (fun hX=>hX.elim)
     rw [boolOf_has hc hh]; rfl
   ·exact h.elim
  ·rename_i p u' hp
   split at h
   ·rename_i c t' hc
    obtain ⟨h1,_,h2⟩:=h
    cases b with
    | true=>exact wpAny_pure (hQ _ _ (qb_ret (av:=.sb (true||c)) I hv h2))
    | false=>
     refine hr (fun q=>q=(none,u')) False Q E (R.holds_mono (fun q hq=>⟨by rw [hq,hc]; rfl,hq⟩) id (pureOf_holds hp (h1 rfl))) (fun v' s' hq=>hQ _ _ (qb_pure hq (fun V ρ' hh=>?_) h2)) (fun hX=>hX.elim)
     rw [boolOf_has hc hh]; rfl
   ·exact h.elim
  ·cases b with
   | false=>exact wpAny_pure (hQ _ _ (qb_ret (av:=.bool false) I hv (h.2 rfl).2))
   | true=>exact hr P X Q E (h.1 rfl) hQ hE
  ·cases b with
   | true=>exact wpAny_pure (hQ _ _ (qb_ret (av:=.bool true) I hv (h.1 rfl).2))
   | false=>exact hr P X Q E (h.2 rfl) hQ hE
 | _=>exact fun _ _ _ _ h _ _=>h.elim
theorem boolK_not {op:BoolOp} {rest:RE} {av:AV} (h:(boolOf av).isSome=false):∀ (P:Option SL×AV→Prop) (X:Prop),¬ (boolK op rest av).Holds P X:=by
 cases av<;>first | exact fun P X h=>h | exact nomatch h
def orElseB (op:BoolOp) (b:Bool) (t:Sem Bool):Sem Bool:=match op,b with
 | .And,false=>pure false
 | .Or,true=>pure true
 | _,_=>t
theorem boolE_okB {ev:Expr→SL→RE} (hev:OkB prog w EO F env A ev) (op:BoolOp):∀ (es:List Expr) (sl:SL) (ρ:List Addr) (s:Shared),Inv prog w F env sl ρ s→TriB prog w EO F env sl ρ s A (boolE op ev es sl) (allTrue op es F.env)
 | [],_,_,_,_=>fun _ _ _ _ h _ _=>h.elim
 | [e],sl,ρ,s,I=>fun P X Q E h hQ hE=>by
  show wpAny _ _ (do match op,← isTrue e F.env (eval e F.env) with | .And,false=>pure false | .Or,true=>pure true | _,_=>allTrue op [] F.env) _ _ _
  refine wpAny_bind (hev e sl ρ s I P X _ _ h (fun b s' hq=>?_) hE)
  cases op<;>cases b<;>exact wpAny_pure (hQ _ _ hq)
 | e :: e' :: r,sl,ρ,s,I=>fun P X Q E h hQ hE=>by
  rw [boolE_cons] at h
  show wpAny _ _ (do match op,← isTrue e F.env (eval e F.env) with | .And,false=>pure false | .Or,true=>pure true | _,_=>allTrue op (e' :: r) F.env) _ _ _
  refine wpAny_bind (wpAny_mono (TriB.thenB (u:=fun b=>orElseB op b (allTrue op (e' :: r) F.env)) (hev e sl ρ s I) (fun av sl h P X=>boolK_not h P X) (fun b av sl₁ ρ₁ s₁ I₁ hv ev₁=>?_) h hQ hE) (fun b s' k=>?_) fun _ _ x=>x)
  ·refine boolK_okB I₁ hv (boolE_okB hev op (e' :: r) sl₁ ρ₁ s₁ I₁) fun Q' E' k=>?_
   cases op<;>cases b<;>exact k
  ·cases op<;>cases b<;>exact k
end Mine
end
section
open PySem.SeqAt
namespace Mine
variable {prog:Program} {w:World} {EO:Value→Shared→Prop} {F:Frm} {env:AEnv} {sl:SL} {ρ:List Addr} {s:Shared} {A:Around} {d:Nat}
theorem ask_noexc {b:Bool} {p:Prop} [Decidable p] {x:R AV} (h:NoExc x):NoExc (ask b p x):=by
 unfold ask
 repeat' (first | exact h | trivial | split)
theorem guardB_noexc {α:Type} {b:Bool} {x:R α} (h:NoExc x):NoExc (guardB b x):=by
 cases b<;>first | exact h | trivial
theorem binA_noexc (op:Operator) (a b:AV):NoExc (binA op a b):=by
 unfold binA
 repeat' (first | trivial | apply ask_noexc | apply guardB_noexc | split)
theorem unA_noexc (op:UnaryOp) (a:AV):NoExc (unA op a):=by
 unfold unA
 repeat' (first | trivial | split)
theorem cmpA_noexc (op:CmpOp) (a b:AV):NoExc (cmpA op a b):=by
 unfold cmpA
 split
 ·unfold inA; repeat' (first | trivial | split)
 ·unfold notInA; repeat' (first | trivial | split)
 ·unfold isNotA; repeat' (first | trivial | split)
 ·unfold eqA; repeat' (first | trivial | split)
 ·unfold neA; repeat' (first | trivial | split)
 ·unfold ordA; repeat' (first | trivial | split)
theorem treeN_noexc (x:Int):∀ (n:Nat) (l:List AV),NoExc (treeN n l x)
 | _,[]=>trivial
 | n,_ :: l=>⟨trivial,treeN_noexc x (n+1) l⟩
theorem getD_noexc (dv:DV) (k:AV) (df:Option AV):NoExc (getD dv k df):=by
 unfold getD
 repeat' (first | trivial | exact treeI_noexc _ _ _ _ | split)
theorem itemA_noexc (sl:SL) (a b:AV):NoExc (itemA sl a b):=by
 unfold itemA
 repeat' (first | trivial | exact treeN_noexc _ _ _ | exact getD_noexc _ _ _ | apply guardB_noexc | split)
theorem callK_noexc (k:BK) (sl:SL) (l:List AV):NoExc (callK k sl l):=by
 unfold callK
 repeat' (first | trivial | apply guardB_noexc | split)
theorem cmpE_ok {ev:Expr→SL→RE} (hev:Ok prog w EO F env A ev) (r:Room A d) (pos:Pos):∀ (ops:List CmpOp) (es:List Expr) (left:AV) (lv:Value) (sl:SL) (ρ:List Addr) (s:Shared),Inv prog w F env sl ρ s→Has prog w (Vw F sl ρ s.heap) ρ left lv →
  Tri prog w EO F env sl ρ s A (cmpE ev left ops es sl) (compareChain pos lv ops (markedEach ops es (evalEach es F.env)))
 | [op],[e],left,lv,sl,ρ,s,I,hl=>fun P X Q E h hQ hE=>by
  simp only [cmpE] at h
  split at h
  ·exact h.elim
  ·rename_i hm
   show wpAny _ _ (do let rv ← holding [lv] (markedBehindIn op e (eval e F.env)); standAt pos; operate [lv,rv] (compareOp op lv rv)) _ _ _
   have em:markedBehindIn op e (eval e F.env)=eval e F.env:=by unfold markedBehindIn; rw [hm]
   rw [em]
   refine wpAny_bind (wpAny_holding (Tri.seq (u:=fun rv=>(do standAt pos; operate [lv,rv] (compareOp op lv rv))) (hev e sl ρ s I) (fun v av sl₁ ρ₁ s₁ I₁ hv ev₁=>?_) h hQ hE))
   refine Tri.pre (Tri.pure (t:=compareOp op lv v) (fun P Q E h hq=>cmpA_sound r (ev₁.has hl) hv h hq) (fun P X=>NoExc.holds (cmpA_noexc ..)) I₁) fun Q E k=>?_
   exact wpAny_bind (wpAny_standAt (wpAny_operate' k))
 | op :: op' :: ops,e :: e' :: es,left,lv,sl,ρ,s,I,hl=>fun P X Q E h hQ hE=>by
  have e1:markedEach (op :: op' :: ops) (e :: e' :: es) (evalEach (e :: e' :: es) F.env)=eval e F.env :: markedEach (op' :: ops) (e' :: es) (evalEach (e' :: es) F.env):=rfl
  have e2:∀ t ts,compareChain pos lv (op :: op' :: ops) (t :: ts)=(do let rv ← holding [lv] t; standAt pos; let c ← holding [lv,rv] (compareOp op lv rv); release [lv,rv] [c]; if ← holding [c,rv] (truthy c) then compareChain pos rv (op' :: ops) ts else pure c):=fun t ts=>rfl
  rw [e1,e2]
  simp only [cmpE] at h
  refine wpAny_bind (wpAny_holding (Tri.seq (u:=fun rv=>(do standAt pos; let c ← holding [lv,rv] (compareOp op lv rv); release [lv,rv] [c]; if ← holding [c,rv] (truthy c) then compareChain pos rv (op' :: ops) (markedEach (op' :: ops) (e' :: es) (evalEach (e' :: es) F.env)) else pure c)) (hev e sl ρ s I) (fun v av sl₁ ρ₁ s₁ I₁ hv ev₁=>?_) h hQ hE))
  intro P X Q E h hQ hE
  refine wpAny_bind (wpAny_standAt (wpAny_bind (wpAny_holding ?_)))
  have h:=R.holds_bind h
  have h2:(cmpA op left av).Holds (fun c=>(boolK .And (cmpE ev av (op' :: ops) (e' :: es) sl₁) c).Holds P X) X:=h
  refine cmpA_sound (P:=fun c=>(boolK .And (cmpE ev av (op' :: ops) (e' :: es) sl₁) c).Holds P X) r (ev₁.has hl) hv (NoExc.holds (cmpA_noexc ..) h2) fun c s₂ ca cm hc hp=>?_
  refine wpAny_bind (wpAny_release' ?_)
  have I₂:=I₁.calm cm
  refine boolK_ok (op:=.And) (rest:=cmpE ev av (op' :: ops) (e' :: es) sl₁) (t:=compareChain pos v (op' :: ops) (markedEach (op' :: ops) (e' :: es) (evalEach (e' :: es) F.env))) (v:=c) (av:=ca) I₂ hc (cmpE_ok hev r pos (op' :: ops) (e' :: es) av v sl₁ ρ₁ s₂ I₂ (cm.evo.has hv)) (fun b e Q' E' k=>?_) P X Q E hp (fun v' s' hq=>hQ _ _ ?_) (hE.after cm.evo)
  ·subst e
   refine wpAny_bind (wpAny_holding (wpAny_truthy_bool ?_))
   cases b<;>exact k
  ·obtain ⟨o,av',ρ',h1,h2,h3,h4⟩:=hq
   exact ⟨o,av',ρ',h1,h2,cm.evo.trans h3,h4⟩
 | [],_,_,_,_,_,_,_,_=>fun _ _ _ _ h _ _=>by simp only [cmpE] at h; exact h.elim
 | [_],[],_,_,_,_,_,_,_=>fun _ _ _ _ h _ _=>by simp only [cmpE] at h; exact h.elim
 | [_],_ :: _ :: _,_,_,_,_,_,_,_=>fun _ _ _ _ h _ _=>by simp only [cmpE] at h; exact h.elim
 | _ :: _ :: _,[],_,_,_,_,_,_,_=>fun _ _ _ _ h _ _=>by simp only [cmpE] at h; exact h.elim
 | _ :: _ :: _,[_],_,_,_,_,_,_,_=>fun _ _ _ _ h _ _=>by simp only [cmpE] at h; exact h.elim
theorem cmpE_okB {ev:Expr→SL→RE} (hev:Ok prog w EO F env A ev) (r:Room A d) (pos:Pos):∀ (ops:List CmpOp) (es:List Expr) (left:AV) (lv:Value) (sl:SL) (ρ:List Addr) (s:Shared),Inv prog w F env sl ρ s→Has prog w (Vw F sl ρ s.heap) ρ left lv →
  TriB prog w EO F env sl ρ s A (cmpE ev left ops es sl) (testChain pos lv ops (markedEach ops es (evalEach es F.env)))
 | [op],[e],left,lv,sl,ρ,s,I,hl=>fun P X Q E h hQ hE=>by
  simp only [cmpE] at h
  split at h
  ·exact h.elim
  ·rename_i hm
   show wpAny _ _ (do let rv ← holding [lv] (markedBehindIn op e (eval e F.env)); standAt pos; let c ← operate [lv,rv] (compareOp op lv rv); holding [c] (truthy c)) _ _ _
   have em:markedBehindIn op e (eval e F.env)=eval e F.env:=by unfold markedBehindIn; rw [hm]
   rw [em]
   refine wpAny_bind (wpAny_holding (TriB.seq (u:=fun rv=>(do standAt pos; let c ← operate [lv,rv] (compareOp op lv rv); holding [c] (truthy c))) (hev e sl ρ s I) (fun v av sl₁ ρ₁ s₁ I₁ hv ev₁=>?_) h hQ hE))
   intro P X Q E h hQ hE
   have h:=NoExc.holds (cmpA_noexc ..) (pureE_holds h)
   refine wpAny_bind (wpAny_standAt (wpAny_bind (wpAny_operate' ?_)))
   refine cmpA_sound (P:=fun c=>(boolOf c).isSome=true∧P (none,c)) r (ev₁.has hl) hv h fun c s₂ ca cm hc hp=>?_
   obtain ⟨b,b',_,e⟩:=boolOf_some hp.1 hc
   subst e
   exact wpAny_holding (wpAny_truthy_bool (hQ _ _ (qe_calm I₁ cm hc hp.2)))
 | op :: op' :: ops,e :: e' :: es,left,lv,sl,ρ,s,I,hl=>fun P X Q E h hQ hE=>by
  have e1:markedEach (op :: op' :: ops) (e :: e' :: es) (evalEach (e :: e' :: es) F.env)=eval e F.env :: markedEach (op' :: ops) (e' :: es) (evalEach (e' :: es) F.env):=rfl
  have e2:∀ t ts,testChain pos lv (op :: op' :: ops) (t :: ts)=(do let rv ← holding [lv] t; standAt pos; let c ← holding [lv,rv] (compareOp op lv rv); release [lv,rv] [c]; if ← holding [c,rv] (truthy c) then testChain pos rv (op' :: ops) ts else pure false):=fun t ts=>rfl
  rw [e1,e2]
  simp only [cmpE] at h
  refine wpAny_bind (wpAny_holding (TriB.seq (u:=fun rv=>(do standAt pos; let c ← holding [lv,rv] (compareOp op lv rv); release [lv,rv] [c]; if ← holding [c,rv] (truthy c) then testChain pos rv (op' :: ops) (markedEach (op' :: ops) (e' :: es) (evalEach (e' :: es) F.env)) else pure false)) (hev e sl ρ s I) (fun v av sl₁ ρ₁ s₁ I₁ hv ev₁=>?_) h hQ hE))
  intro P X Q E h hQ hE
  refine wpAny_bind (wpAny_standAt (wpAny_bind (wpAny_holding ?_)))
  have h:=R.holds_bind h
  refine cmpA_sound (P:=fun c=>(boolK .And (cmpE ev av (op' :: ops) (e' :: es) sl₁) c).Holds (fun p=>(boolOf p.2).isSome=true∧P p) X) r (ev₁.has hl) hv (NoExc.holds (cmpA_noexc ..) h) fun c s₂ ca cm hc hp=>?_
  refine wpAny_bind (wpAny_release' ?_)
  have I₂:=I₁.calm cm
  have hb:(boolOf ca).isSome=true:=by
   cases e:(boolOf ca).isSome with
   | true=>rfl
   | false=>exact (boolK_not e _ _ hp).elim
  obtain ⟨b,b',_,e⟩:=boolOf_some hb hc
  subst e
  refine boolK_okB (op:=.And) (rest:=cmpE ev av (op' :: ops) (e' :: es) sl₁) (t:=testChain pos v (op' :: ops) (markedEach (op' :: ops) (e' :: es) (evalEach (e' :: es) F.env))) (b:=b) (av:=ca) I₂ hc (cmpE_okB hev r pos (op' :: ops) (e' :: es) av v sl₁ ρ₁ s₂ I₂ (cm.evo.has hv)) (fun Q' E' k=>?_) P X Q E hp (fun v' s' hq=>hQ _ _ ?_) (hE.after cm.evo)
  ·refine wpAny_bind (wpAny_holding (wpAny_truthy_bool ?_))
   cases b<;>exact k
  ·obtain ⟨o,av',ρ',h1,h2,h3,h4⟩:=hq
   exact ⟨o,av',ρ',h1,h2,cm.evo.trans h3,h4⟩
 | [],_,_,_,_,_,_,_,_=>fun _ _ _ _ h _ _=>by simp only [cmpE] at h; exact h.elim
 | [_],[],_,_,_,_,_,_,_=>fun _ _ _ _ h _ _=>by simp only [cmpE] at h; exact h.elim
 | [_],_ :: _ :: _,_,_,_,_,_,_,_=>fun _ _ _ _ h _ _=>by simp only [cmpE] at h; exact h.elim
 | _ :: _ :: _,[],_,_,_,_,_,_,_=>fun _ _ _ _ h _ _=>by simp only [cmpE] at h; exact h.elim
 | _ :: _ :: _,[_],_,_,_,_,_,_,_=>fun _ _ _ _ h _ _=>by simp only [cmpE] at h; exact h.elim
end Mine
end
section
open PySem.SeqAt
namespace Mine
variable {prog:Program} {w:World} {EO:Value→Shared→Prop} {F:Frm} {env:AEnv} {sl:SL} {ρ:List Addr} {s:Shared} {A:Around} {d:Nat}
theorem own_frz {n:Nat} {t:AV} {b:Addr} (h:OwnA (sl.set n (Slot.frz t)) ρ b):OwnA sl ρ b:=by
 obtain ⟨m,d,h1,h2⟩:=h
 by_cases e:n=m
 ·subst e
  by_cases hl:n<sl.length
  ·rw [List.getElem?_set_self hl] at h1; exact nomatch h1
  ·rw [List.set_eq_of_length_le (by omega)] at h1; exact ⟨n,d,h1,h2⟩
 ·rw [List.getElem?_set_ne e] at h1
  exact ⟨m,d,h1,h2⟩
theorem mut_frz {n:Nat} {t:AV} {b:Addr} (h:Mut F (sl.set n (Slot.frz t)) ρ b):Mut F sl ρ b:=
 h.elim .inl fun h=>h.elim (fun h=>.inr (.inl h)) fun h=>.inr (.inr (own_frz h))
theorem bad_frz {n:Nat} {t:AV} {b:Addr} (h:Bad F (sl.set n (Slot.frz t)) ρ b):Bad F sl ρ b:=h.elim .inl fun h=>.inr (mut_frz h)
theorem vis_frz {n:Nat} {t:AV} {h:Heap} (b:Addr) (o:Obj) (v:Vw F sl ρ h b o):Vw F (sl.set n (Slot.frz t)) ρ h b o:=⟨v.1,fun q=>v.2.1 (bad_frz q),v.2.2⟩
theorem Inv.freeze (I:Inv prog w F env sl ρ s) {n:Nat} {a:Addr} {t:AV} (ha:ρ[n]?=some a) (ht:Has prog w (Vw F (sl.set n (Slot.frz t)) ρ s.heap) ρ t (.ref a)) (hn:n<sl.length) :
  Inv prog w F env (sl.set n (Slot.frz t)) ρ s∧Evo F sl ρ s (sl.set n (Slot.frz t)) ρ s:=by
 have hv:∀ b o,Vw F sl ρ s.heap b o→Vw F (sl.set n (Slot.frz t)) ρ s.heap b o:=vis_frz
 have sub:∀ p d,(sl.set n (Slot.frz t))[p]?=some (Slot.own d)→n≠p∧sl[p]?=some (Slot.own d):=fun p d h=>by
  by_cases e:n=p
  ·subst e; rw [List.getElem?_set_self hn] at h; exact nomatch h
  ·rw [List.getElem?_set_ne e] at h; exact ⟨e,h⟩
 refine ⟨⟨I.base,I.sm,fun b h=>I.low b (bad_frz h),?_,?_,I.kind,I.cells,?_,?_,?_,?_,I.locX,I.frs⟩,⟨fun _ _ e _=>.of e,rfl,rfl,rfl,fun _ _ e=>e,fun b h=>.inl (mut_frz h),fun _ o e=>⟨o,e⟩⟩⟩
 ·obtain ⟨m,h1,h2⟩:=I.ns
  exact ⟨m,h1,fun x av e k=>let ⟨v,e1,e2⟩:=h2 x av e k; ⟨v,e1,Has.mono prog w hv (fun _ _ e=>e) av v e2⟩⟩
 ·intro x av e k
  obtain ⟨q,v,e1,e2,e3⟩:=I.cell x av e k
  exact ⟨q,v,e1,e2,Has.mono prog w hv (fun _ _ e=>e) av v e3⟩
 ·rw [List.length_set]; exact I.len
 ·intro m b σ e1 e2
  by_cases e:n=m
  ·subst e
   rw [List.getElem?_set_self hn] at e2
   injection e2 with e2
   subst e2
   rw [ha] at e1
   injection e1 with e1
   subst e1
   exact ht
  ·rw [List.getElem?_set_ne e] at e2
   exact (I.slots m b σ e1 e2).calm' hv fun _ _ _ h=>h
 ·intro p q b d d' h1 h2 h3 h4
  exact I.apart p q b _ _ (sub p d h1).2 (sub q d' h2).2 h3 h4
 ·intro b h
  exact I.ownNe b (own_frz h)
def Frozen (prog:Program) (w:World) (F:Frm) (env:AEnv) (ρ:List Addr) (s:Shared) (sl sl':SL):Prop:=Inv prog w F env sl' ρ s∧Evo F sl ρ s sl' ρ s
theorem Frozen.trans {sl₁ sl₂ sl₃:SL} (x:Frozen prog w F env ρ s sl₁ sl₂) (y:Frozen prog w F env ρ s sl₂ sl₃):Frozen prog w F env ρ s sl₁ sl₃:=⟨y.1,x.2.trans y.2⟩
theorem vis_frozen (I:Inv prog w F env sl ρ s) {n:Nat} {a:Addr} {c t:AV} {o:Obj} (hn:sl[n]?=some (Slot.own c)) (ha:ρ[n]?=some a) (ho:s.heap.get? a=some o):Vw F (sl.set n (Slot.frz t)) ρ s.heap a o:=by
 have own:OwnA sl ρ a:=⟨n,c,hn,ha⟩
 have apa:=I.ownNe a own
 have hlt:=(List.getElem?_eq_some_iff.mp hn).1
 refine ⟨ho,fun q=>?_,I.ownNotSm hn ha⟩
 rcases q with q | q | ⟨x,q⟩ | ⟨m,d,h1,h2⟩
 ·exact apa.2.2 q
 ·exact apa.1 q
 ·exact apa.2.1 x q
 ·by_cases e:n=m
  ·subst e; rw [List.getElem?_set_self hlt] at h1; exact nomatch h1
  ·rw [List.getElem?_set_ne e] at h1
   exact e (I.apart n m a c d hn h1 ha h2)
theorem ownAt_some {n:Nat} (h:ownAt? sl n=true):∃ c,sl[n]?=some (Slot.own c):=by
 unfold ownAt? at h
 split at h
 ·rename_i c e; exact ⟨c,e⟩
 ·exact nomatch h
theorem Frozen.refl (I:Inv prog w F env sl ρ s):Frozen prog w F env ρ s sl sl:=⟨I,.refl ..⟩
theorem frz_pure {t t':AV} {sl':SL} {v:Value} {o:Option (SL×AV)} (h:o=some (sl',t')) (I:Inv prog w F env sl ρ s) (hv:Has prog w (Vw F sl ρ s.heap) ρ t v) (e:o=match pureA t with | true=>some (sl,t) | false=>none) :
  Frozen prog w F env ρ s sl sl'∧Has prog w (Vw F sl' ρ s.heap) ρ t' v:=by
 rw [e] at h
 split at h
 ·injection h with h
  injection h with h1 h2
  subst h1 h2
  exact ⟨.refl I,hv⟩
 ·exact nomatch h
mutual
theorem frz_ok:∀ (k:Nat) (sl:SL) (t:AV) (sl':SL) (t':AV) (v:Value),frz k sl t=some (sl',t')→Inv prog w F env sl ρ s→Has prog w (Vw F sl ρ s.heap) ρ t v →
  Frozen prog w F env ρ s sl sl'∧Has prog w (Vw F sl' ρ s.heap) ρ t' v
 | 0,_,_,_,_,_,h,_,_=>nomatch h
 | k+1,sl,.loc n,sl',t',v,h,I,hv=>by
  simp only [frz] at h
  split at h
  ·rename_i t e
   injection h with h
   injection h with h1 h2
   subst h1 h2
   obtain ⟨a,e1,hr,hs⟩:=I.slot hv e
   subst e1
   exact ⟨.refl I,hs⟩
  ·rename_i l e
   split at h
   ·rename_i sl₁ l' hf
    split at h
    ·rename_i ho
     injection h with h
     injection h with h1 h2
     subst h1 h2
     obtain ⟨a,e1,hr,us,m,h3,h4⟩:=I.slot hv e
     subst e1
     obtain ⟨f1,f2⟩:=frzL_ok k sl l sl₁ l' us hf I h4
     obtain ⟨c,hc⟩:=ownAt_some ho
     have hvis:=vis_frozen (t:=.lst l') f1.1 hc hr h3
     have hh:Has prog w (Vw F (sl₁.set n (Slot.frz (.lst l'))) ρ s.heap) ρ (.lst l') (.ref a):=⟨a,us,m,rfl,hvis,HasL.mono prog w vis_frz (fun _ _ e=>e) _ _ f2⟩
     exact ⟨f1.trans (f1.1.freeze hr hh (List.getElem?_eq_some_iff.mp hc).1),hh⟩
    ·exact nomatch h
   ·exact nomatch h
  ·rename_i ks l e
   split at h
   ·rename_i sl₁ l' hf
    split at h
    ·rename_i ho
     injection h with h
     injection h with h1 h2
     subst h1 h2
     obtain ⟨a,e1,hr,ob,us,h3,h5,h6,h4⟩:=I.slot hv e
     subst e1
     obtain ⟨f1,f2⟩:=frzL_ok k sl l sl₁ l' us hf I h4
     obtain ⟨c,hc⟩:=ownAt_some ho
     have hvis:=vis_frozen (t:=.dS ks l') f1.1 hc hr h3
     have hh:Has prog w (Vw F (sl₁.set n (Slot.frz (.dS ks l'))) ρ s.heap) ρ (.dS ks l') (.ref a):=⟨a,ob,us,rfl,hvis,h5,h6,HasL.mono prog w vis_frz (fun _ _ e=>e) _ _ f2⟩
     exact ⟨f1.trans (f1.1.freeze hr hh (List.getElem?_eq_some_iff.mp hc).1),hh⟩
    ·exact nomatch h
   ·exact nomatch h
  ·rename_i ks l e
   split at h
   ·rename_i sl₁ l' hf
    split at h
    ·rename_i ho
     injection h with h
     injection h with h1 h2
     subst h1 h2
     obtain ⟨a,e1,hr,ob,us,h3,h5,h6,h4⟩:=I.slot hv e
     subst e1
     obtain ⟨f1,f2⟩:=frzL_ok k sl l sl₁ l' us hf I h4
     obtain ⟨c,hc⟩:=ownAt_some ho
     have hvis:=vis_frozen (t:=.dI ks l') f1.1 hc hr h3
     have hh:Has prog w (Vw F (sl₁.set n (Slot.frz (.dI ks l'))) ρ s.heap) ρ (.dI ks l') (.ref a):=⟨a,ob,us,rfl,hvis,h5,h6,HasL.mono prog w vis_frz (fun _ _ e=>e) _ _ f2⟩
     exact ⟨f1.trans (f1.1.freeze hr hh (List.getElem?_eq_some_iff.mp hc).1),hh⟩
    ·exact nomatch h
   ·exact nomatch h
  ·exact nomatch h
 | k+1,sl,.tup l,sl',t',v,h,I,hv=>by
  simp only [frz] at h
  split at h
  ·injection h with h
   injection h with h1 h2
   subst h1 h2
   exact ⟨.refl I,hv⟩
  ·split at h
   ·rename_i sl₁ l' hf
    injection h with h
    injection h with h1 h2
    subst h1 h2
    obtain ⟨a,us,m,e,h3,h4⟩:=hv
    obtain ⟨f1,f2⟩:=frzL_ok k sl l sl₁ l' us hf I h4
    exact ⟨f1,a,us,m,e,f1.2.vis _ _ h3,f2⟩
   ·exact nomatch h
 | k+1,sl,.none,sl',t',v,h,I,hv=>frz_pure h I hv rfl
 | k+1,sl,.bool _,sl',t',v,h,I,hv=>frz_pure h I hv rfl
 | k+1,sl,.sb _,sl',t',v,h,I,hv=>frz_pure h I hv rfl
 | k+1,sl,.num _,sl',t',v,h,I,hv=>frz_pure h I hv rfl
 | k+1,sl,.sym _,sl',t',v,h,I,hv=>frz_pure h I hv rfl
 | k+1,sl,.str _,sl',t',v,h,I,hv=>frz_pure h I hv rfl
 | k+1,sl,.ints _,sl',t',v,h,I,hv=>frz_pure h I hv rfl
 | k+1,sl,.lst _,sl',t',v,h,I,hv=>frz_pure h I hv rfl
 | k+1,sl,.dS _ _,sl',t',v,h,I,hv=>frz_pure h I hv rfl
 | k+1,sl,.dI _ _,sl',t',v,h,I,hv=>frz_pure h I hv rfl
 | k+1,sl,.rng _ _ _,sl',t',v,h,I,hv=>frz_pure h I hv rfl
 | k+1,sl,.ite _ _ _,sl',t',v,h,I,hv=>frz_pure h I hv rfl
theorem frzL_ok:∀ (k:Nat) (sl:SL) (l:List AV) (sl':SL) (l':List AV) (vs:List Value),frzL k sl l=some (sl',l')→Inv prog w F env sl ρ s→HasL prog w (Vw F sl ρ s.heap) ρ l vs →
  Frozen prog w F env ρ s sl sl'∧HasL prog w (Vw F sl' ρ s.heap) ρ l' vs
 | 0,_,_,_,_,_,h,_,_=>nomatch h
 | k+1,sl,[],sl',l',vs,h,I,hv=>by
  simp only [frzL] at h
  injection h with h
  injection h with h1 h2
  subst h1 h2
  exact ⟨.refl I,hv⟩
 | k+1,sl,x :: l,sl',l',_,h,I,⟨v,r,e,h1,h2⟩=>by
  simp only [frzL] at h
  split at h
  ·rename_i sl₁ x' hx
   split at h
   ·rename_i sl₂ l₂ hl
    injection h with h
    injection h with h3 h4
    subst h3 h4 e
    obtain ⟨f1,g1⟩:=frz_ok k sl x sl₁ x' v hx I h1
    obtain ⟨f2,g2⟩:=frzL_ok k sl₁ l sl₂ l₂ r hl f1.1 (f1.2.hasL h2)
    exact ⟨f1.trans f2,v,r,rfl,f2.2.has g1,g2⟩
   ·exact nomatch h
  ·exact nomatch h
end
end Mine
end
section
open PySem.SeqAt
namespace Mine
variable {prog:Program} {w:World} {EO:Value→Shared→Prop} {F:Frm} {env:AEnv} {sl:SL} {ρ:List Addr} {s:Shared} {A:Around} {d:Nat}
def Frm.hide (F:Frm) (d:Addr):Frm:={ F with X:=fun a=>F.X a∨a=d,frX:=fun a h=>.inl (F.frX a h) }
theorem mut_hide {d a:Addr}:Mut (F.hide d) sl ρ a↔Mut F sl ρ a:=Iff.rfl
theorem bad_hide {d a:Addr}:Bad (F.hide d) sl ρ a↔Bad F sl ρ a∨a=d:=by
 unfold Bad
 show (F.X a∨a=d)∨Mut F sl ρ a↔(F.X a∨Mut F sl ρ a)∨a=d
 constructor
 ·rintro ((h | h) | h)
  ·exact .inl (.inl h)
  ·exact .inr h
  ·exact .inl (.inr h)
 ·rintro ((h | h) | h)
  ·exact .inl (.inl h)
  ·exact .inr h
  ·exact .inl (.inr h)
theorem Inv.hide (I:Inv prog w F env sl ρ s) {s':Shared} {d:Addr} (keep:∀ a o,s.heap.get? a=some o→s'.heap.get? a=some o) (hd:s.heap.get? d=none) (hd':∃ o,s'.heap.get? d=some o) :
  Inv prog w (F.hide d) env sl ρ s':=by
 have hv:∀ b o,Vw F sl ρ s.heap b o→Vw (F.hide d) sl ρ s'.heap b o:=fun b o h=>by
  have hb:b≠d:=fun e=>by
   have h1:=h.1
   rw [e,hd] at h1; exact nomatch h1
  exact ⟨keep b o h.1,fun q=>(bad_hide.mp q).elim h.2.1 hb,h.2.2⟩
 have hbase:F.base.get? d=none:=by
  cases e:F.base.get? d with
  | none=>rfl
  | some o=>rw [I.base d o e] at hd; exact nomatch hd
 have live:∀ a,Bad F sl ρ a→a≠d:=fun a h e=>by
  obtain ⟨o,ho⟩:=(I.low a h).2
  subst e; rw [hd] at ho; exact nomatch ho
 refine ⟨fun a o e=>keep a o (I.base a o e),I.sm,fun a h=>?_,?_,?_,I.kind,?_,I.len,?_,I.apart,?_,?_,fun a h=>let ⟨o,e,q⟩:=I.frs a h; ⟨o,keep a o e,q⟩⟩
 ·rcases bad_hide.mp h with h | e
  ·exact ⟨(I.low a h).1,let ⟨o,e⟩:=(I.low a h).2; ⟨o,keep a o e⟩⟩
  ·subst e; exact ⟨hbase,hd'⟩
 ·obtain ⟨m,h1,h2⟩:=I.ns
  exact ⟨m,h1.keeps keep,fun x av e k=>let ⟨v,e1,e2⟩:=h2 x av e k; ⟨v,e1,Has.mono prog w hv (fun _ _ e=>e) av v e2⟩⟩
 ·intro x av e k
  obtain ⟨q,v,e1,e2,e3⟩:=I.cell x av e k
  exact ⟨q,v,e1,e2.keeps keep,Has.mono prog w hv (fun _ _ e=>e) av v e3⟩
 ·intro x c e
  obtain ⟨⟨ov,h1⟩,h2⟩:=I.cells x c e
  exact ⟨⟨ov,h1.keeps keep⟩,h2⟩
 ·intro n a σ e1 e2
  exact (I.slots n a σ e1 e2).calm hv (fun _ _ e=>e) (keep a)
 ·intro a h
  obtain ⟨h1,h2,h3⟩:=I.ownNe a h
  exact ⟨h1,h2,fun q=>q.elim h3 (live a (.inr (.inr (.inr h))))⟩
 ·exact ⟨fun q=>q.elim I.locX.1 (live _ (.inr (.inl rfl))),fun x c e q=>q.elim (I.locX.2 x c e) (live c (.inr (.inr (.inl ⟨x,e⟩))))⟩
theorem Inv.show {d:Addr} (I:Inv prog w (F.hide d) env sl ρ s) {s':Shared} (keep:∀ a o,a≠d→s.heap.get? a=some o→s'.heap.get? a=some o) (hd:∃ o,s'.heap.get? d=some o) (hf:¬ F.fr d) :
  Inv prog w F env sl ρ s':=by
 have hbd:Bad (F.hide d) sl ρ d:=bad_hide.mpr (.inr rfl)
 have hv:∀ b o,Vw (F.hide d) sl ρ s.heap b o→Vw F sl ρ s'.heap b o:=fun b o h=>
  ⟨keep b o (fun e=>h.2.1 (bad_hide.mpr (.inr e))) h.1,fun q=>h.2.1 (bad_hide.mpr (.inl q)),h.2.2⟩
 have ned:∀ a,Mut F sl ρ a→a≠d:=fun a h e=>by
  subst e
  rcases h with h | ⟨x,h⟩ | h
  ·exact I.locX.1 (.inr h.symm)
  ·exact I.locX.2 x _ h (.inr rfl)
  ·exact (I.ownNe _ h).2.2 (.inr rfl)
 refine ⟨fun a o e=>keep a o (fun q=>by subst q; have e':F.base.get? a=none:=(I.low a hbd).1; rw [e'] at e; exact nomatch e) (I.base a o e),I.sm,fun a h=>?_,?_,?_,I.kind,?_,I.len,?_,I.apart,fun a h=>?_,⟨fun q=>I.locX.1 (.inl q),fun x c e q=>I.locX.2 x c e (.inl q)⟩,fun a h=>let ⟨o,e,q⟩:=I.frs a h; ⟨o,keep a o (fun z=>hf (z ▸ h)) e,q⟩⟩
 ·refine ⟨(I.low a (bad_hide.mpr (.inl h))).1,?_⟩
  obtain ⟨o,e⟩:=(I.low a (bad_hide.mpr (.inl h))).2
  by_cases q:a=d
  ·subst q; exact hd
  ·exact ⟨o,keep a o q e⟩
 ·obtain ⟨m,h1,h2⟩:=I.ns
  exact ⟨m,h1.at fun o e=>keep _ o (ned _ (.inl rfl)) e,fun x av e k=>let ⟨v,e1,e2⟩:=h2 x av e k; ⟨v,e1,Has.mono prog w hv (fun _ _ e=>e) av v e2⟩⟩
 ·intro x av e k
  obtain ⟨q,v,e1,⟨o,e2,e3⟩,e4⟩:=I.cell x av e k
  exact ⟨q,v,e1,⟨o,keep q o (ned q (.inr (.inl ⟨x,mem_of_lookup e1⟩))) e2,e3⟩,Has.mono prog w hv (fun _ _ e=>e) av v e4⟩
 ·intro x c e
  obtain ⟨⟨ov,o,h1,h2⟩,h3⟩:=I.cells x c e
  exact ⟨⟨ov,o,keep c o (ned c (.inr (.inl ⟨x,e⟩))) h1,h2⟩,h3⟩
 ·intro n a σ e1 e2
  refine (I.slots n a σ e1 e2).calm' hv fun c hc o ho=>keep a o (ned a ?_) ho
  subst hc
  exact .inr (.inr ⟨n,c,e2,e1⟩)
 ·obtain ⟨h1,h2,h3⟩:=I.ownNe a h
  exact ⟨h1,h2,fun q=>h3 (.inl q)⟩
theorem Inv.drop {d:Addr} (I:Inv prog w (F.hide d) env sl ρ s) {s':Shared} (keep:∀ a o,a≠d→s.heap.get? a=some o→s'.heap.get? a=some o) (hX:¬ F.X d) :
  Inv prog w F env sl ρ s':=by
 have hbd:Bad (F.hide d) sl ρ d:=bad_hide.mpr (.inr rfl)
 have hv:∀ b o,Vw (F.hide d) sl ρ s.heap b o→Vw F sl ρ s'.heap b o:=fun b o h=>
  ⟨keep b o (fun e=>h.2.1 (bad_hide.mpr (.inr e))) h.1,fun q=>h.2.1 (bad_hide.mpr (.inl q)),h.2.2⟩
 have ned:∀ a,Mut F sl ρ a→a≠d:=fun a h e=>by
  subst e
  rcases h with h | ⟨x,h⟩ | h
  ·exact I.locX.1 (.inr h.symm)
  ·exact I.locX.2 x _ h (.inr rfl)
  ·exact (I.ownNe _ h).2.2 (.inr rfl)
 refine ⟨fun a o e=>keep a o (fun q=>by subst q; have e':F.base.get? a=none:=(I.low a hbd).1; rw [e'] at e; exact nomatch e) (I.base a o e),I.sm,fun a h=>?_,?_,?_,I.kind,?_,I.len,?_,I.apart,fun a h=>?_,⟨fun q=>I.locX.1 (.inl q),fun x c e q=>I.locX.2 x c e (.inl q)⟩,fun a h=>let ⟨o,e,q⟩:=I.frs a h; ⟨o,keep a o (fun z=>hX (z ▸ F.frX a h)) e,q⟩⟩
 ·refine ⟨(I.low a (bad_hide.mpr (.inl h))).1,?_⟩
  obtain ⟨o,e⟩:=(I.low a (bad_hide.mpr (.inl h))).2
  exact ⟨o,keep a o (fun q=>h.elim (fun z=>hX (q ▸ z)) fun z=>ned a z q) e⟩
 ·obtain ⟨m,h1,h2⟩:=I.ns
  exact ⟨m,h1.at fun o e=>keep _ o (ned _ (.inl rfl)) e,fun x av e k=>let ⟨v,e1,e2⟩:=h2 x av e k; ⟨v,e1,Has.mono prog w hv (fun _ _ e=>e) av v e2⟩⟩
 ·intro x av e k
  obtain ⟨q,v,e1,⟨o,e2,e3⟩,e4⟩:=I.cell x av e k
  exact ⟨q,v,e1,⟨o,keep q o (ned q (.inr (.inl ⟨x,mem_of_lookup e1⟩))) e2,e3⟩,Has.mono prog w hv (fun _ _ e=>e) av v e4⟩
 ·intro x c e
  obtain ⟨⟨ov,o,h1,h2⟩,h3⟩:=I.cells x c e
  exact ⟨⟨ov,o,keep c o (ned c (.inr (.inl ⟨x,e⟩))) h1,h2⟩,h3⟩
 ·intro n a σ e1 e2
  refine (I.slots n a σ e1 e2).calm' hv fun c hc o ho=>keep a o (ned a ?_) ho
  subst hc
  exact .inr (.inr ⟨n,c,e2,e1⟩)
 ·obtain ⟨h1,h2,h3⟩:=I.ownNe a h
  exact ⟨h1,h2,fun q=>h3 (.inl q)⟩
end Mine
end
section
open PySem.SeqAt
namespace Mine
variable {prog:Program} {w:World} {EO:Value→Shared→Prop} {F:Frm} {env:AEnv} {sl:SL} {ρ:List Addr} {s:Shared} {A:Around} {d:Nat}
def FramesAt (fr:Addr→Prop) (A:Around):Prop:=∃ l,A.frames=some l∧∀ e∈l,e.scope.kind≠.module∧∃ L,e.frame=some L∧fr L
structure Grow (s s':Shared):Prop where
 keep:∀ a o,s.heap.get? a=some o→s'.heap.get? a=some o
 gens:s'.gens=s.gens
 drawn:s'.drawn=s.drawn
 os:s'.os=s.os
theorem Grow.calm {s':Shared} (x:Grow s s'):Calm F sl ρ s s':=⟨x.keep,x.gens,x.drawn,x.os⟩
structure GrowF (fr:Addr→Prop) (s s':Shared):Prop where
 keep:∀ a o,s.heap.get? a=some o→Kept fr s'.heap a o
 gens:s'.gens=s.gens
 drawn:s'.drawn=s.drawn
 os:s'.os=s.os
def VX (X:Addr→Prop) (h:Heap):Vis:=fun a o=>h.get? a=some o∧¬ X a∧(a==sysModules)=false
def PureFn (prog:Program) (w:World) (G:Heap) (a:Addr) (fn:Fn):Prop:=
 ∀ (X fr:Addr→Prop) (s:Shared) (A:Around) (vs:List Value) (avs:List AV) (P:AV→Prop) (Q E:Value→Shared→Prop),
  (∀ b o,G.get? b=some o→s.heap.get? b=some o)→(∀ b,X b→G.get? b=none∧∃ o,s.heap.get? b=some o)→(∀ b,fr b→X b)→(∀ b,fr b→∃ o,s.heap.get? b=some o∧∀ vs,o.data≠.fields vs)→FramesAt fr A→Room A (fn.height+1)→HasL prog w (VX X s.heap) [] avs vs →
  (fn.spec avs).Holds P False→(∀ v s' av,GrowF fr s s'→Has prog w (VX X s'.heap) [] av v→P av→Q v s')→wpAny (model prog w) A (call (.ref a) vs) Q E s
def WellFn (prog:Program) (w:World) (G:Heap) (a:Addr) (wf:WFn):Prop:=
 ∀ (X fr:Addr→Prop) (s:Shared) (A:Around) (wa:Addr) (ws:List Value) (m:Nat) (items:List AV) (vs:List Value) (avs:List AV) (P:List AV×AV→Prop) (Q E:Value→Shared→Prop),
  (∀ b o,G.get? b=some o→s.heap.get? b=some o)→(∀ b,X b→G.get? b=none∧∃ o,s.heap.get? b=some o)→(∀ b,fr b→X b)→(∀ b,fr b→∃ o,s.heap.get? b=some o∧∀ vs,o.data≠.fields vs)→FramesAt fr A→Room A (wf.height+1) →
  X wa→¬ fr wa→s.heap.get? wa=some (lstO ws m)→HasL prog w (VX X s.heap) [] items ws→HasL prog w (VX X s.heap) [] avs vs →
  (wf.spec items avs).Holds P False →
  (∀ v s' l' ws' m' av,(∀ b o,b≠wa→s.heap.get? b=some o→Kept fr s'.heap b o)→s'.gens=s.gens→s'.drawn=s.drawn→s'.os=s.os→s'.heap.get? wa=some (lstO ws' m')→HasL prog w (VX X s'.heap) [] l' ws'→Has prog w (VX X s'.heap) [] av v→P (l',av)→Q v s') →
  wpAny (model prog w) A (call (.ref a) (.ref wa :: vs)) Q E s
structure GOK (prog:Program) (w:World) (C:Ctx) (G:Heap):Prop where
 names:∃ mg mb,G.Ns mainGlobals mg∧G.Ns builtinsNs mb ∧
  (∀ x v,C.glob.lookup x=some v→∃ val,mg x=some val∧Has prog w (VX (fun _=>False) G) [] v val) ∧
  (∀ f k,bkOf f=some k→mg f=none∧mb f=some k.val) ∧
  (∀ f fn,C.funs.lookup f=some fn→∃ a o fd,mg f=some (.ref a)∧G.get? a=some o∧o.data=.func fd∧PureFn prog w G a fn∧∀ l,NoExc (fn.spec l)) ∧
  (∀ f wf,C.wfuns.lookup f=some wf→∃ a o fd,mg f=some (.ref a)∧G.get? a=some o∧o.data=.func fd∧WellFn prog w G a wf∧∀ x l,NoExc (wf.spec x l))
mutual
theorem pure_has {V:Vis} {ρ ρ':List Addr}:∀ (t:AV) (v:Value),pureA t=true→Has prog w V ρ t v→Has prog w V ρ' t v
 | .none,_,_,h=>h
 | .bool _,_,_,h=>h
 | .sb _,_,_,h=>h
 | .num _,_,_,h=>h
 | .sym _,_,_,h=>h
 | .str _,_,_,h=>h
 | .ints _,_,_,h=>h
 | .tup l,_,hp,⟨a,vs,n,e,hv,h⟩=>⟨a,vs,n,e,hv,pureL_has l vs (by simpa [pureA] using hp) h⟩
 | .lst l,_,hp,⟨a,vs,n,e,hv,h⟩=>⟨a,vs,n,e,hv,pureL_has l vs (by simpa [pureA] using hp) h⟩
 | .dS _ l,_,hp,⟨a,o,vs,e,hv,hd,hl,h⟩=>⟨a,o,vs,e,hv,hd,hl,pureL_has l vs (by simpa [pureA] using hp) h⟩
 | .dI _ l,_,hp,⟨a,o,vs,e,hv,hd,hl,h⟩=>⟨a,o,vs,e,hv,hd,hl,pureL_has l vs (by simpa [pureA] using hp) h⟩
 | .rng _ _ _,_,_,h=>h
 | .ite _ x y,v,hp,⟨h1,h2⟩=>by
  simp only [pureA,Bool.and_eq_true] at hp
  exact ⟨fun e=>pure_has x v hp.1 (h1 e),fun e=>pure_has y v hp.2 (h2 e)⟩
 | .loc _,_,hp,_=>nomatch hp
theorem pureL_has {V:Vis} {ρ ρ':List Addr}:∀ (l:List AV) (vs:List Value),pureL l=true→HasL prog w V ρ l vs→HasL prog w V ρ' l vs
 | [],_,_,h=>h
 | x :: l,_,hp,⟨v,r,e,h1,h2⟩=>by
  simp only [pureL,Bool.and_eq_true] at hp
  exact ⟨v,r,e,pure_has x v hp.1 h1,pureL_has l r hp.2 h2⟩
end
theorem nil_has {V:Vis} {ρ:List Addr} {t:AV} {v:Value} (h:Has prog w V [] t v):Has prog w V ρ t v:=Has.mono prog w (fun _ _ e=>e) (fun n a e=>by simp at e) t v h
theorem nil_hasL {V:Vis} {ρ:List Addr} {t:List AV} {v:List Value} (h:HasL prog w V [] t v):HasL prog w V ρ t v:=HasL.mono prog w (fun _ _ e=>e) (fun n a e=>by simp at e) t v h
structure FOK (F:Frm) (C:Ctx) (prog:Program) (w:World) (A:Around):Prop where
 frm:FrmOK F A
 glob:GOK prog w C F.base
theorem glob_has (I:Inv prog w F env sl ρ s) {t:AV} {v:Value} (h:Has prog w (VX (fun _=>False) F.base) [] t v):Has prog w (Vw F sl ρ s.heap) ρ t v:=
 Has.mono prog w (fun a o h=>⟨I.base a o h.1,fun q=>(by
  have e:=(I.low a q).1
  have h1:=h.1
  rw [e] at h1; exact nomatch h1),h.2.2⟩) (fun n a e=>by simp at e) t v h
theorem res_has (I:Inv prog w F env sl ρ s) {t:AV} {v:Value} (h:Has prog w (Vw F sl ρ s.heap) ρ t v):Has prog w (Vw F sl ρ s.heap) ρ (res sl t) v:=by
 unfold res
 split
 ·split
  ·rename_i e
   obtain ⟨a,e1,hr,hs⟩:=I.slot h e
   subst e1
   exact hs
  ·exact h
 ·exact h
theorem name_ok (hF:FOK F C prog w A) (I:Inv prog w F env sl ρ s) {x:Str} {pos:Pos} {P:Option SL×AV→Prop} {X:Prop} {Q E:Value→Shared→Prop}
  (h:(match x==("__debug__" : Str)||x==("__classdict__" : Str) with
  | true=>.fail
  | false=>match env.lookup x with
   | some v=>.ret (none,res sl v)
   | none=>match F.env.scope.names.lookup x with
    | some .globalImplicit=>(match C.glob.lookup x with
     | some v=>.ret (none,v)
     | none=>.fail)
    | _=>.fail:RE).Holds P X) (hQ:∀ v s',QE prog w F env sl ρ s P v s'→Q v s'):wpAny (model prog w) A (eval (.Name x pos) F.env) Q E s:=by
 split at h
 ·exact h.elim
 ·rename_i hx
  simp only [Bool.or_eq_false_iff] at hx
  split at h
  ·rename_i av e
   refine wpAny_Name ?_ hx.1
   have fin:∀ v,Has prog w (Vw F sl ρ s.heap) ρ av v→Q v s:=fun v hv=>hQ _ _ (qe_calm I (.tok s.toks) (res_has I hv) h)
   rcases I.kind x av e with k | k | k
   ·obtain ⟨m,h1,h2⟩:=I.ns
    obtain ⟨v,e1,e2⟩:=h2 x av e k
    exact wpAny_loadName_local hF.frm.kind k h1 e1 (fin v e2)
   ·obtain ⟨c,v,e1,e2,e3⟩:=I.cell x av e (.inl k)
    exact wpAny_loadName_cell hF.frm.kind k e1 e2 (fin v e3)
   ·obtain ⟨c,v,e1,e2,e3⟩:=I.cell x av e (.inr k)
    exact wpAny_loadName_free hF.frm.kind k e1 e2 (fin v e3) hx.2
  ·split at h
   ·rename_i hk
    split at h
    ·rename_i av e
     obtain ⟨mg,mb,n1,n2,n3,_⟩:=hF.glob.names
     obtain ⟨val,e1,e2⟩:=n3 x av e
     refine Name_function_global hF.frm.kind hk (loadGlobal_global (mg:=mg) ?_ e1 (hQ _ _ (qe_calm I (.tok s.toks) (glob_has I e2) h))) hx.1
     rw [hF.frm.glob]
     exact n1.keeps I.base
    ·exact h.elim
   ·exact h.elim
theorem list_ok {ev:Expr→SL→RE} (hev:Ok prog w EO F env A ev) (I:Inv prog w F env sl ρ s) {elts:List Expr} {pos:Pos} :
  Tri prog w EO F env sl ρ s A (seqLE (evL ev elts sl) sl fun l _=>guardB (Nat.blt l.length 16777216) (.ret (none,.lst l))) (eval (.List elts pos) F.env):=fun P X Q E h hQ hE=>by
 rw [arm_eval_List]
 refine wpAny_bind (wpAny_standAt (wpAny_bind (TriL.seqLE (u:=fun vs=>newList vs) (evL_ok hev pos elts sl ρ s I) (fun vs l sl₁ ρ₁ s₁ I₁ hl ev₁=>?_) h hQ hE)))
 intro P X Q E h hQ hE
 obtain ⟨hz,h⟩:=guardB_holds h
 have hb:=blt_lt hz
 have hn:=hl.length
 exact wpAny_newList (hQ _ _ (qe_calm I₁ (.push _ _) (av:=.lst l) ⟨_,vs,0,rfl,vis_new I₁ (get_size _) (Heap.get?_push_size _ rfl),(Calm.push (F:=F) (sl:=sl₁) (ρ:=ρ₁) _ _).evo.hasL hl⟩ h)) (size_line (by omega))
theorem tuple_ok {ev:Expr→SL→RE} (hev:Ok prog w EO F env A ev) (I:Inv prog w F env sl ρ s) {elts:List Expr} {k:Nat} {pos:Pos} :
  Tri prog w EO F env sl ρ s A (seqLE (evL ev elts sl) sl fun l _=>guardB (Nat.blt l.length 16777216) (.ret (none,.tup l))) (eval (.Tuple elts k pos) F.env):=fun P X Q E h hQ hE=>by
 rw [arm_eval_Tuple]
 refine wpAny_bind (wpAny_standAt (wpAny_bind (TriL.seqLE (u:=fun vs=>newTuple vs) (evL_ok hev pos elts sl ρ s I) (fun vs l sl₁ ρ₁ s₁ I₁ hl ev₁=>?_) h hQ hE)))
 intro P X Q E h hQ hE
 obtain ⟨hz,h⟩:=guardB_holds h
 have hb:=blt_lt hz
 have hn:=hl.length
 exact wpAny_newTuple (hQ _ _ (qe_calm I₁ (.push _ _) (av:=.tup l) ⟨_,vs,0,rfl,vis_new I₁ (get_size _) (Heap.get?_push_size _ rfl),(Calm.push (F:=F) (sl:=sl₁) (ρ:=ρ₁) _ _).evo.hasL hl⟩ h)) (size_line (by omega))
def Around1 (F:Frm):Addr→Prop:=fun a=>F.fr a∨a=F.env.locals
theorem Around1.bad (b:Addr) (h:Around1 F b):Bad F sl ρ b:=h.elim (fun h=>.inl (F.frX b h)) fun h=>.inr (.inl h)
theorem Inv.around1 (I:Inv prog w F env sl ρ s) (b:Addr) (h:Around1 F b):∃ o,s.heap.get? b=some o∧∀ vs,o.data≠.fields vs:=by
 rcases h with h | h
 ·exact I.frs b h
 ·subst h
  obtain ⟨m,⟨o,es,ep,e,d,_⟩,_⟩:=I.ns
  exact ⟨o,e,fun vs q=>by rw [d] at q; exact nomatch q⟩
theorem Inv.own_around1 (I:Inv prog w F env sl ρ s) {a:Addr} (h:OwnA sl ρ a):¬ Around1 F a:=by
 obtain ⟨h1,h2,h3⟩:=I.ownNe a h
 exact fun q=>q.elim (fun q=>h3 (F.frX a q)) h1
theorem Inv.cell_around1 (I:Inv prog w F env sl ρ s) {x:Str} {c:Addr} (h:(x,c)∈F.env.cells):¬ Around1 F c:=
 fun q=>q.elim (fun q=>I.locX.2 x c h (F.frX c q)) (I.cells x c h).2
theorem Inv.base_around1 (I:Inv prog w F env sl ρ s) {a:Addr} {o:Obj} (h:F.base.get? a=some o):¬ Around1 F a:=fun q=>by
 rw [(I.low a (Around1.bad a q)).1] at h; exact nomatch h
theorem Inv.x_not_mut (I:Inv prog w F env sl ρ s) {a:Addr} (h:F.X a):¬ Mut F sl ρ a:=fun q=>by
 rcases q with q | ⟨x,q⟩ | q
 ·exact I.locX.1 (q ▸ h)
 ·exact I.locX.2 x a q h
 ·exact (I.ownNe a q).2.2 h
theorem Inv.new_around1 (I:Inv prog w F env sl ρ s) {a:Addr} (h:s.heap.get? a=none):¬ Around1 F a:=fun q=>by
 obtain ⟨o,e,_⟩:=I.around1 a q
 rw [h] at e; exact nomatch e
theorem Inv.called (I:Inv prog w F env sl ρ s) {s':Shared} (keep:∀ a o,s.heap.get? a=some o→Kept (Around1 F) s'.heap a o) (hg:s'.gens=s.gens) (hd:s'.drawn=s.drawn) (ho:s'.os=s.os) :
  Inv prog w F env sl ρ s'∧Evo F sl ρ s sl ρ s':=by
 have hv:∀ b o,Vw F sl ρ s.heap b o→Vw F sl ρ s'.heap b o:=fun b o h=>⟨(keep b o h.1).exact fun q=>h.2.1 (Around1.bad b q),h.2⟩
 refine ⟨⟨fun a o e=>(keep a o (I.base a o e)).exact (I.base_around1 e),I.sm,fun a h=>⟨(I.low a h).1,?_⟩,?_,fun x av e k=>?_,I.kind,fun x c e=>⟨?_,(I.cells x c e).2⟩,I.len,fun n a σ e1 e2=>?_,I.apart,I.ownNe,I.locX,fun a h=>?_⟩,
  ⟨fun a o e h=>(keep a o e).sub fun q=>q.resolve_right fun q=>h (.inl q),hg,hd,ho,fun _ _ e=>e,fun a h=>.inl h,fun a o e=>let ⟨o',e',_⟩:=(keep a o e).some; ⟨o',e'⟩⟩⟩
 ·obtain ⟨o,e⟩:=(I.low a h).2
  obtain ⟨o',e',_⟩:=(keep a o e).some
  exact ⟨o',e'⟩
 ·obtain ⟨m,h1,h2⟩:=I.ns
  exact ⟨m,ns_kept h1 (keep _),fun x av e k=>let ⟨v,e1,e2⟩:=h2 x av e k; ⟨v,e1,Has.mono prog w hv (fun _ _ e=>e) av v e2⟩⟩
 ·obtain ⟨c,v,e1,⟨o,e2,e3⟩,e4⟩:=I.cell x av e k
  exact ⟨c,v,e1,⟨o,(keep c o e2).exact (I.cell_around1 (mem_of_lookup e1)),e3⟩,Has.mono prog w hv (fun _ _ e=>e) av v e4⟩
 ·obtain ⟨⟨ov,o,h1,h2⟩,_⟩:=I.cells x c e
  exact ⟨ov,o,(keep c o h1).exact (I.cell_around1 e),h2⟩
 ·refine (I.slots n a σ e1 e2).calm' hv fun c hc o ho=>(keep a o ho).exact ?_
  subst hc
  exact I.own_around1 ⟨n,c,e2,e1⟩
 ·obtain ⟨o,e,d⟩:=I.frs a h
  obtain ⟨o',e',d'⟩:=(keep a o e).some
  exact ⟨o',e',fun vs=>d' ▸ d vs⟩
theorem Inv.storeF (I:Inv prog w F env sl ρ s) {n:Nat} {a:Addr} {c c':AV} (hn:sl[n]?=some (Slot.own c)) (ha:ρ[n]?=some a) {s':Shared} (keep:∀ b o,b≠a→s.heap.get? b=some o→Kept (Around1 F) s'.heap b o)
  (hg:s'.gens=s.gens) (hd:s'.drawn=s.drawn) (ho:s'.os=s.os) (hc:OwnAt prog w (Vw F sl ρ s'.heap) ρ s'.heap a c') :
  Inv prog w F env (sl.set n (Slot.own c')) ρ s'∧Evo F sl ρ s (sl.set n (Slot.own c')) ρ s':=by
 have own:OwnA sl ρ a:=⟨n,c,hn,ha⟩
 have hbad:Bad F sl ρ a:=.inr (.inr (.inr own))
 have hv:∀ b o,Vw F sl ρ s.heap b o→Vw F sl ρ s'.heap b o:=fun b o h=>⟨(keep b o (fun e=>h.2.1 (e ▸ hbad)) h.1).exact fun q=>h.2.1 (Around1.bad b q),h.2⟩
 have hlt:=(List.getElem?_eq_some_iff.mp hn).1
 have apa:=I.ownNe a own
 refine ⟨⟨?_,I.sm,?_,?_,?_,I.kind,?_,?_,?_,?_,?_,I.locX,?_⟩,⟨?_,hg,hd,ho,fun _ _ e=>e,fun b h=>.inl ((mut_set hn b).mp h),fun b o e=>by
  by_cases q:b=a
  ·subst q; exact hc.live
  ·obtain ⟨o',e',_⟩:=(keep b o q e).some; exact ⟨o',e'⟩⟩⟩
 ·intro b o e
  refine (keep b o (fun q=>?_) (I.base b o e)).exact (I.base_around1 e)
  subst q
  rw [(I.low b hbad).1] at e; exact nomatch e
 ·intro b h
  have h:=(bad_set hn b).mp h
  refine ⟨(I.low b h).1,?_⟩
  by_cases e:b=a
  ·subst e; exact hc.live
  ·obtain ⟨o,e'⟩:=(I.low b h).2
   obtain ⟨o',e'',_⟩:=(keep b o e e').some
   exact ⟨o',e''⟩
 ·rw [vw_set hn]
  obtain ⟨m,h1,h2⟩:=I.ns
  refine ⟨m,ns_kept h1 fun o e=>keep _ o (Ne.symm apa.1) e,fun x av e k=>?_⟩
  obtain ⟨v,e1,e2⟩:=h2 x av e k
  exact ⟨v,e1,Has.mono prog w hv (fun _ _ e=>e) av v e2⟩
 ·rw [vw_set hn]
  intro x av e k
  obtain ⟨q,v,e1,⟨o,e2,e3⟩,e4⟩:=I.cell x av e k
  refine ⟨q,v,e1,⟨o,(keep q o (fun e=>?_) e2).exact (I.cell_around1 (mem_of_lookup e1)),e3⟩,Has.mono prog w hv (fun _ _ e=>e) av v e4⟩
  subst e
  exact apa.2.1 x (mem_of_lookup e1)
 ·intro x q e
  obtain ⟨⟨ov,o,h1,h2⟩,h3⟩:=I.cells x q e
  exact ⟨⟨ov,o,(keep q o (fun z=>by subst z; exact apa.2.1 x e) h1).exact (I.cell_around1 e),h2⟩,h3⟩
 ·rw [List.length_set]; exact I.len
 ·rw [vw_set hn]
  intro m b σ e1 e2
  by_cases e:n=m
  ·subst e
   rw [List.getElem?_set_self hlt] at e2
   injection e2 with e2
   subst e2
   rw [ha] at e1
   injection e1 with e1
   subst e1
   exact hc
  ·rw [List.getElem?_set_ne e] at e2
   refine (I.slots m b σ e1 e2).calm' hv fun d hd o ho=>(keep b o (fun z=>?_) ho).exact ?_
   ·subst z hd
    exact e (I.apart n m b c d hn e2 ha e1)
   ·subst hd
    exact I.own_around1 ⟨m,d,e2,e1⟩
 ·intro p q b d d' h1 h2 h3 h4
  have f:∀ p d,(sl.set n (Slot.own c'))[p]?=some (Slot.own d)→∃ e,sl[p]?=some (Slot.own e):=fun p d h=>by
   by_cases e:n=p
   ·subst e; exact ⟨c,hn⟩
   ·rw [List.getElem?_set_ne e] at h; exact ⟨d,h⟩
  obtain ⟨_,k1⟩:=f p d h1
  obtain ⟨_,k2⟩:=f q d' h2
  exact I.apart p q b _ _ k1 k2 h3 h4
 ·intro b h
  exact I.ownNe b ((own_set hn b).mp h)
 ·intro b h
  obtain ⟨o,e,d⟩:=I.frs b h
  obtain ⟨o',e',d'⟩:=(keep b o (fun q=>apa.2.2 (q ▸ F.frX b h)) e).some
  exact ⟨o',e',fun vs=>d' ▸ d vs⟩
 ·intro b o e hm
  exact (keep b o (fun q=>by subst q; exact hm (.inr (.inr own))) e).sub fun q=>q.resolve_right fun q=>hm (.inl q)
end Mine
end
section
open PySem.SeqAt
namespace Mine
variable {prog:Program} {w:World} {EO:Value→Shared→Prop} {F:Frm} {env:AEnv} {sl:SL} {ρ:List Addr} {s:Shared} {A:Around} {d:Nat}
theorem keysS_parts:∀ {keys:List (Option Expr)} {ks:List Str},keysS keys=some ks→keys.all (·.isSome)=true∧ks.length=keys.length
 | [],ks,h=>by
  have h:some []=some ks:=h
  injection h with h; subst h; exact ⟨rfl,rfl⟩
 | none :: r,ks,h=>nomatch h
 | some e :: r,ks,h=>by
  unfold keysS at h
  split at h
  ·exact nomatch ‹_ :: _=[]›
  ·rename_i x k p r' e'
   injection e' with e1 e2
   subst e2
   obtain ⟨m,hm,hx⟩:=Option.map_eq_some_iff.mp h
   obtain ⟨h1,h2⟩:=keysS_parts hm
   subst hx
   exact ⟨by simp [h1],by simp [h2]⟩
  ·exact nomatch h
theorem keysS_cons {e:Option Expr} {r:List (Option Expr)} {ks:List Str} (h:keysS (e :: r)=some ks):∃ x k p m,e=some (.Constant (.str x) k p)∧keysS r=some m∧ks=x :: m:=by
 unfold keysS at h
 split at h
 ·exact nomatch ‹_ :: _=[]›
 ·rename_i x k p r' e'
  injection e' with e1 e2
  subst e1 e2
  obtain ⟨m,hm,hx⟩:=Option.map_eq_some_iff.mp h
  exact ⟨x,k,p,m,rfl,hm,hx.symm⟩
 ·exact nomatch h
theorem evalPairs_ok {ev:Expr→SL→RE} (hev:Ok prog w EO F env A ev) (pos:Pos):∀ (keys:List (Option Expr)) (values:List Expr) (ks:List Str) (sl:SL) (ρ:List Addr) (s:Shared),keysS keys=some ks→keys.length=values.length→Inv prog w F env sl ρ s →
  ∀ (P:Option SL×List AV→Prop) (X:Prop) (Q:List (Value×Value)→Shared→Prop) (E:Value→Shared→Prop),(evL ev values sl).Holds P X →
  (∀ prs vs s',QL prog w F env sl ρ s P vs s'→Carries (PySem.strKind prog w) prs (ks.zip vs)→ks.length=vs.length→Q prs s')→OnExc prog w EO F sl ρ s X E→wpAny (model prog w) A (evalPairs (pairTrees keys values F.env pos)) Q E s
 | [],[],ks,sl,ρ,s,hk,_,I=>fun P X Q E h hQ _=>by
  have hk:some []=some ks:=hk
  injection hk with hk; subst hk
  exact pairTrees_nil_walk (hQ [] [] s ⟨none,[],ρ,I,rfl,.refl ..,h⟩ trivial rfl)
 | [],_ :: _,_,_,_,_,_,hl,_=>nomatch hl
 | _ :: _,[],_,_,_,_,_,hl,_=>nomatch hl
 | key :: keys,e :: r,ks,sl,ρ,s,hk,hl,I=>fun P X Q E h hQ hE=>by
  obtain ⟨x,kk,p,m,rfl,hm,rfl⟩:=keysS_cons hk
  have hne:∀ x p,e≠.Starred x p:=fun y q he=>by subst he; exact h
  have e1:evL ev (e :: r) sl=seqL (ev e sl) sl fun v sl=>(evL ev r sl).bind fun q=>.ret (q.1,v :: q.2):=by
   cases e<;>first | rfl | exact absurd rfl (hne _ _)
  rw [e1] at h
  refine pairTrees_cons_walk (wpAny_Constant_str ?_)
  have I₀:=I.calm (.tok (F:=F) (sl:=sl) (ρ:=ρ) (s:=s) (s.toks+1))
  have ev₀:=(Calm.tok (F:=F) (sl:=sl) (ρ:=ρ) (s:=s) (s.toks+1)).evo
  refine hev e sl ρ _ I₀ _ X _ _ (seqL_holds h) (fun v s₁ h₁=>?_) (hE.after ev₀)
  obtain ⟨o,av,ρ₁,I₁,hv,ev₁,hp⟩:=h₁
  refine evalPairs_ok hev pos keys r m _ ρ₁ s₁ hm (by simpa using hl) I₁ _ X _ _ (R.holds_bind hp) (fun prs vs s₂ h₂ hc hn=>hQ _ (v :: vs) _ ?_ ⟨strKind_is prog w x _,rfl,hc⟩ (by simp [hn])) (hE.after (ev₀.trans ev₁))
  obtain ⟨o₂,avs,ρ₂,I₂,hvs,ev₂,hp₂⟩:=h₂
  refine ⟨combO o o₂,av :: avs,ρ₂,?_,?_,?_,hp₂⟩<;>rw [combO_getD]
  ·exact I₂
  ·exact ⟨v,vs,rfl,ev₂.has hv,hvs⟩
  ·exact (ev₀.trans ev₁).trans ev₂
theorem Evo.unhide {sl':SL} {ρ':List Addr} {s₀ s':Shared} {d:Addr} (x:Evo (F.hide d) sl ρ s sl' ρ' s') (g:Grow s₀ s):Evo F sl ρ s₀ sl' ρ' s':=
 ⟨fun a o e hm=>x.keep a o (g.keep a o e) hm,x.gens.trans g.gens,x.drawn.trans g.drawn,x.os.trans g.os,x.ext,fun a h=>(x.mu a h).elim .inl fun z=>.inr (by
  cases e:s₀.heap.get? a with
  | none=>rfl
  | some o=>rw [g.keep a o e] at z; cases z),fun a o e=>x.live a o (g.keep a o e)⟩
theorem Past.unhide {s₀ s':Shared} {d:Addr} (x:Past (F.hide d) sl ρ s s') (g:Grow s₀ s):Past F sl ρ s₀ s':=
 ⟨fun a o e hm=>x.keep a o (g.keep a o e) hm,x.gens.trans g.gens,x.drawn.trans g.drawn,x.os.trans g.os,fun a o e=>x.live a o (g.keep a o e)⟩
theorem Grow.dead {s₀ s:Shared} (g:Grow s₀ s) {a:Addr} (h:s.heap.get? a=none):s₀.heap.get? a=none:=by
 cases q:s₀.heap.get? a with
 | none=>rfl
 | some o=>rw [g.keep a o q] at h; exact nomatch h
theorem Grow.push (s:Shared) (o:Obj):Grow s { s with heap:=s.heap.push o }:=⟨fun _ _ e=>Heap.get?_push_of_some _ e,rfl,rfl,rfl⟩
theorem dict_ok {ev:Expr→SL→RE} (hev:∀ d,Ok prog w EO (F.hide d) env A ev) (I:Inv prog w F env sl ρ s) {keys:List (Option Expr)} {values:List Expr} {pos:Pos} :
  Tri prog w EO F env sl ρ s A (match keysS keys,decide (keys.length=values.length∧keys.length≤15) with
  | some ks,true=>(match decide ks.Nodup with
   | true=>seqLE (evL ev values sl) sl fun l _=>.ret (none,.dS ks l)
   | false=>.fail)
  | _,_=>.fail) (eval (.Dict keys values pos) F.env):=fun P X Q E h hQ hE=>by
 split at h
 ·rename_i ks hk hd
  obtain ⟨hl,hlen⟩:=of_decide_eq_true hd
  split at h
  ·rename_i hnd
   have hnd:=of_decide_eq_true hnd
   obtain ⟨hall,hkl⟩:=keysS_parts hk
   by_cases h0:keys=[]
   ·subst h0
    have hv:values=[]:=List.length_eq_zero_iff.mp hl.symm
    subst hv
    have hk:some []=some ks:=hk
    injection hk with hk; subst hk
    refine wpAny_Dict_empty (hQ _ _ (qe_calm I (.push _ _) (av:=.dS [] []) ?_ h))
    obtain ⟨o,h1,h2⟩:=Heap.dictOf_iff.mp (Heap.DictOf.new (knd:=PySem.strKind prog w) s.heap)
    exact ⟨_,o,[],rfl,vis_new I (get_size _) h1,h2,rfl,rfl⟩
   ·let D:=s.heap.objs.size
    have hnew:s.heap.get? D=none:=get_size _
    have hobj:(s.heap.push { cls:=.type "dict",data:=.dict #[] }).get? D=some { cls:=.type "dict",data:=.dict #[] }:=Heap.get?_push_size _ rfl
    have g:=Grow.push s { cls:=.type "dict",data:=.dict #[] }
    have Ip:Inv prog w (F.hide D) env sl ρ { s with heap:=s.heap.push { cls:=.type "dict",data:=.dict #[] } }:=I.hide g.keep hnew ⟨_,hobj⟩
    have nf:¬ F.fr D:=I.nfr hnew
    have nm:¬ Mut F sl ρ D:=fun q=>by
     obtain ⟨_,o,e⟩:=I.low D (.inr q)
     rw [hnew] at e; exact nomatch e
    refine wpAny_Dict_walk (knd:=PySem.strKind prog w) hall hl h0 hlen ?_
    refine evalPairs_ok (hev D) pos keys values ks sl ρ _ hk hl Ip _ X _ _ (seqLE_holds h) (fun prs vs s₁ h₁ hc hn=>?_) ?_
    ·obtain ⟨o,l,ρ₁,I₁,hvs,ev₁,hp⟩:=h₁
     have hdo:s₁.heap.get? D=some { cls:=.type "dict",data:=.dict #[] }:=(ev₁.keep D _ hobj nm).exact nf
     refine ⟨_,hc,?_,fun h' hd' hsb=>?_⟩
     ·obtain ⟨o',e1,e2⟩:=Heap.dictOf_iff.mp (Heap.DictOf.new (knd:=PySem.strKind prog w) s.heap)
      refine Heap.dictOf_iff.mpr ⟨o',?_,e2⟩
      rw [hdo,← hobj,← e1]
     ·rw [merged_nil_of_nodup _ (by rw [List.map_fst_zip (by omega)]; exact hnd)] at hd'
      obtain ⟨o',e1,e2⟩:=Heap.dictOf_iff.mp hd'
      have kp:=keep_sameBut hsb
      let s₂:Shared:={ s₁ with heap:=h',toks:=s₁.toks+prs.length }
      have I₂:Inv prog w F env (o.getD sl) ρ₁ s₂:=I₁.show kp ⟨o',e1⟩ nf
      have hbad:¬ Bad F (o.getD sl) ρ₁ D:=fun q=>by
       rcases q with q | q
       ·obtain ⟨_,o,e⟩:=I.low D (.inl q)
        rw [hnew] at e; exact nomatch e
       ·rcases ev₁.mu D q with z | z
        ·exact nm z
        ·have z':(s.heap.push { cls:=.type "dict",data:=.dict #[] }).get? D=none:=z
         rw [hobj] at z'; exact nomatch z'
      have hsm:(D==sysModules)=false:=(vis_new I (s':={ s with heap:=s.heap.push { cls:=.type "dict",data:=.dict #[] } }) hnew hobj).2.2
      refine hQ _ _ ⟨o,.dS ks l,ρ₁,I₂,⟨D,o',vs,rfl,⟨e1,hbad,hsm⟩,e2,hn,?_⟩,?_,?_⟩
      ·exact HasL.mono prog w (fun b ob hb=>⟨kp b ob (fun e=>hb.2.1 (bad_hide.mpr (.inr e))) hb.1,fun q=>hb.2.1 (bad_hide.mpr (.inl q)),hb.2.2⟩) (fun _ _ e=>e) _ _ hvs
      ·have e:=ev₁.unhide g
       exact ⟨fun a ob ha hm=>(e.keep a ob ha hm).trans fun o' h'=>.of (kp a o' (fun q=>by subst q; rw [hnew] at ha; exact nomatch ha) h'),e.gens,e.drawn,e.os,e.ext,e.mu,fun a ob ha=>let ⟨o',h'⟩:=e.live a ob ha; ⟨o',kp a o' (fun q=>by subst q; rw [hnew] at ha; exact nomatch ha) h'⟩⟩
      ·have hp:P (combO o none,.dS ks l):=hp
       cases o<;>exact hp
    ·intro hX e s' p f he
     exact hE hX e s' (p.unhide g) (fun a ha=>g.dead (f a ha)) he
  ·exact h.elim
 ·exact h.elim
end Mine
end
section
open PySem.SeqAt
namespace Mine
variable {prog:Program} {w:World} {EO:Value→Shared→Prop} {F:Frm} {env:AEnv} {sl:SL} {ρ:List Addr} {s:Shared} {A:Around} {d:Nat}
def testK (v:AV) (t f:RE):RE:=match v with
 | .bool true=>t
 | .bool false=>f
 | .sb b=>(match pureOf t,pureOf f with
  | some (p,u),some (q,v)=>.need ((b=true→p)∧(b=false→q)) (.ret (none,joinA b u v))
  | _,_=>.ite b t f)
 | _=>.fail
theorem onTest_eq (x:RE) (sl:SL) (t f:SL→RE):onTest x sl t f=seqE x sl fun v sl=>testK v (t sl) (f sl):=by
 unfold onTest
 congr 1
theorem testK_not {av:AV} {t f:RE} (h:(boolOf av).isSome=false):∀ (P:Option SL×AV→Prop) (X:Prop),¬ (testK av t f).Holds P X:=by
 cases av<;>first | exact fun P X h=>h | exact nomatch h
theorem joinA_has {V:Vis} {b:Bool} {x y:AV} {v:Value} (h1:b=true→Has prog w V ρ x v) (h2:b=false→Has prog w V ρ y v):Has prog w V ρ (joinA b x y) v:=by
 unfold joinA
 split
 ·rename_i i _ j _ e1 e2
  cases b with
  | true=>exact intOf_has e1 (h1 rfl)
  | false=>exact intOf_has e2 (h2 rfl)
 ·split
  ·rename_i i _ j _ e1 e2
   cases b with
   | true=>exact boolOf_has e1 (h1 rfl)
   | false=>exact boolOf_has e2 (h2 rfl)
  ·split
   ·cases b with
    | true=>exact h1 rfl
    | false=>exact h2 rfl
   ·exact ⟨h1,h2⟩
theorem testK_ok {t f:RE} {av:AV} {b:Bool} {x y:Sem Value} (hv:Has prog w (Vw F sl ρ s.heap) ρ av (.bool b)) (ht:Tri prog w EO F env sl ρ s A t x) (hf:Tri prog w EO F env sl ρ s A f y) :
  Tri prog w EO F env sl ρ s A (testK av t f) (if b=true then x else y):=by
 have sides:∀ c,c=b→Tri prog w EO F env sl ρ s A (if c=true then t else f) (if b=true then x else y):=fun c e=>by
  subst e
  cases c<;>first | exact ht | exact hf
 cases av with
 | bool c=>
  have e:Value.bool b=.bool c:=hv
  injection e with e
  subst e
  cases b<;>first | exact ht | exact hf
 | sb c=>
  have e:Value.bool b=.bool c:=hv
  injection e with e
  subst e
  intro P X Q E h hQ hE
  simp only [testK] at h
  split at h
  ·rename_i p u q u' hp hq
   obtain ⟨⟨h1,h2⟩,h3⟩:=h
   cases b with
   | true=>exact ht _ False Q E (pureOf_holds hp (h1 rfl)) (fun v s' k=>hQ _ _ (qe_pure k (fun V ρ' hh=>joinA_has (b:=true) (fun _=>hh) (fun e=>(nomatch e))) h3)) (fun hX=>hX.elim)
   | false=>exact hf _ False Q E (pureOf_holds hq (h2 rfl)) (fun v s' k=>hQ _ _ (qe_pure k (fun V ρ' hh=>joinA_has (b:=false) (fun e=>(nomatch e)) (fun _=>hh)) h3)) (fun hX=>hX.elim)
  ·cases b with
   | true=>exact ht P X Q E (h.1 rfl) hQ hE
   | false=>exact hf P X Q E (h.2 rfl) hQ hE
 | _=>exact Tri.fail
theorem testK_okB {t f:RE} {av:AV} {b:Bool} {x y:Sem Bool} (hv:Has prog w (Vw F sl ρ s.heap) ρ av (.bool b)) (ht:TriB prog w EO F env sl ρ s A t x) (hf:TriB prog w EO F env sl ρ s A f y) :
  TriB prog w EO F env sl ρ s A (testK av t f) (if b=true then x else y):=by
 cases av with
 | bool c=>
  have e:Value.bool b=.bool c:=hv
  injection e with e
  subst e
  cases b<;>first | exact ht | exact hf
 | sb c=>
  have e:Value.bool b=.bool c:=hv
  injection e with e
  subst e
  intro P X Q E h hQ hE
  simp only [testK] at h
  split at h
  ·rename_i p u q u' hp hq
   obtain ⟨⟨h1,h2⟩,h4,h3⟩:=h
   have one:∀ {z:RE} {p:Prop} {a:AV} {y:Sem Bool},pureOf z=some (p,a)→p→TriB prog w EO F env sl ρ s A z y→(∀ V ρ' c,Has prog w V ρ' a (.bool c)→Has prog w V ρ' (joinA b u u') (.bool c))→(boolOf a).isSome=true→wpAny (model prog w) A y Q E s:=fun hz hp hy hh hb=>
    hy (fun r=>r=(none,_)) False Q E (R.holds_mono (fun q hq=>⟨by rw [hq]; exact hb,hq⟩) id (pureOf_holds hz hp)) (fun v s' k=>hQ _ _ (qb_pure k (fun V ρ' h=>hh V ρ' _ h) h3)) (fun hX=>hX.elim)
   have hj:(boolOf u).isSome=true∧(boolOf u').isSome=true:=by
    revert h4
    unfold joinA
    split
    ·exact fun h=>nomatch h
    ·split
     ·rename_i e1 e2; exact fun _=>⟨by rw [e1]; rfl,by rw [e2]; rfl⟩
     ·split
      ·exact fun h=>nomatch h
      ·exact fun h=>nomatch h
   cases b with
   | true=>exact one hp (h1 rfl) ht (fun V ρ' c hh=>joinA_has (fun _=>hh) (fun e=>nomatch e)) hj.1
   | false=>exact one hq (h2 rfl) hf (fun V ρ' c hh=>joinA_has (fun e=>nomatch e) (fun _=>hh)) hj.2
  ·cases b with
   | true=>exact ht P X Q E (h.1 rfl) hQ hE
   | false=>exact hf P X Q E (h.2 rfl) hQ hE
 | _=>exact fun _ _ _ _ h _ _=>h.elim
theorem ifexp_ok {ev:Expr→SL→RE} (hev:Ok prog w EO F env A ev) (hB:OkB prog w EO F env A ev) (I:Inv prog w F env sl ρ s) {t b o:Expr} {pos:Pos} :
  Tri prog w EO F env sl ρ s A (onTest (ev t sl) sl (ev b) (ev o)) (eval (.IfExp t b o pos) F.env):=fun P X Q E h hQ hE=>by
 rw [onTest_eq] at h
 refine wpAny_IfExp (wpAny_mono (TriB.then (u:=fun c=>if c=true then eval b F.env else eval o F.env) (hB t sl ρ s I) (fun av sl h P X=>testK_not h P X) (fun c av sl₁ ρ₁ s₁ I₁ hv ev₁=>testK_ok hv (hev b _ _ _ I₁) (hev o _ _ _ I₁)) h hQ hE) (fun c s' k=>?_) fun _ _ x=>x)
 cases c<;>exact k
theorem ifexp_okB {ev:Expr→SL→RE} (hB:OkB prog w EO F env A ev) (I:Inv prog w F env sl ρ s) {t b o:Expr} {pos:Pos} :
  TriB prog w EO F env sl ρ s A (onTest (ev t sl) sl (ev b) (ev o)) (isTrue (.IfExp t b o pos) F.env (eval (.IfExp t b o pos) F.env)):=fun P X Q E h hQ hE=>by
 rw [onTest_eq] at h
 show wpAny _ _ (do if ← isTrue t F.env (eval t F.env) then isTrue b F.env (eval b F.env) else isTrue o F.env (eval o F.env)) _ _ _
 refine wpAny_bind (wpAny_mono (TriB.thenB (u:=fun c=>if c=true then isTrue b F.env (eval b F.env) else isTrue o F.env (eval o F.env)) (hB t sl ρ s I) (fun av sl h P X=>testK_not h P X) (fun c av sl₁ ρ₁ s₁ I₁ hv ev₁=>testK_okB hv (hB b _ _ _ I₁) (hB o _ _ _ I₁)) h hQ hE) (fun c s' k=>?_) fun _ _ x=>x)
 cases c<;>exact k
theorem QE.after {o:Option SL} {ρ₁:List Addr} {s₁ s':Shared} {P:Option SL×AV→Prop} {v:Value} (ev₁:Evo F sl ρ s (o.getD sl) ρ₁ s₁) (h:QE prog w F env (o.getD sl) ρ₁ s₁ (fun q=>P (combO o q.1,q.2)) v s'):QE prog w F env sl ρ s P v s':=by
 obtain ⟨o₂,av,ρ₂,I₂,hv,ev₂,hp⟩:=h
 refine ⟨combO o o₂,av,ρ₂,?_,?_,?_,hp⟩<;>rw [combO_getD]
 ·exact I₂
 ·exact hv
 ·exact ev₁.trans ev₂
theorem QE.calm {s₁ s':Shared} {P:Option SL×AV→Prop} {v:Value} (cm:Calm F sl ρ s s₁) (h:QE prog w F env sl ρ s₁ P v s'):QE prog w F env sl ρ s P v s':=by
 obtain ⟨o,av,ρ',h1,h2,h3,h4⟩:=h
 exact ⟨o,av,ρ',h1,h2,cm.evo.trans h3,h4⟩
theorem IntsA.take:∀ {l:List Int} {vs:List Value} (n:Nat),IntsA l vs→IntsA (l.take n) (vs.take n)
 | l,vs,0,_=>by simp [IntsA]
 | [],_,n+1,h=>by rw [show _=[] from h]; rfl
 | x :: l,_,n+1,⟨t,r,e,h⟩=>by subst e; exact ⟨t,r.take n,rfl,IntsA.take n h⟩
theorem HasL.reverse {V:Vis}:∀ {l:List AV} {vs:List Value},HasL prog w V ρ l vs→HasL prog w V ρ l.reverse vs.reverse
 | [],_,h=>by rw [show _=[] from h]; rfl
 | x :: l,_,⟨v,r,e,h1,h2⟩=>by
  subst e
  rw [List.reverse_cons,List.reverse_cons]
  exact HasL.append (HasL.reverse h2) ⟨v,[],rfl,h1,rfl⟩
theorem sub_ok {ev:Expr→SL→RE} (hev:Ok prog w EO F env A ev) (I:Inv prog w F env sl ρ s) {v i:Expr} {pos:Pos} (hi:∀ l u t p,i≠.Slice l u t p) :
  Tri prog w EO F env sl ρ s A (seqE (ev v sl) sl fun a sl=>seqE (ev i sl) sl fun b sl=>pureE (itemA sl a b)) (eval (.Subscript v i pos) F.env):=fun P X Q E h hQ hE=>by
 have hs:∀ o x,subscripted i false o x=operate [o,x] (getItem o x):=fun o x=>by
  cases i<;>first | rfl | exact absurd rfl (hi _ _ _ _)
 refine Subscript_ (hev v sl ρ s I _ X _ _ (seqE_holds h) (fun o s₁ h₁=>?_) hE)
 obtain ⟨o₁,a,ρ₁,I₁,ho,ev₁,hp⟩:=h₁
 refine hev i _ ρ₁ s₁ I₁ _ X _ _ (seqE_holds hp) (fun x s₂ h₂=>?_) (hE.after ev₁)
 obtain ⟨o₂,b,ρ₂,I₂,hx,ev₂,hp₂⟩:=h₂
 have hp₂:=NoExc.holds (itemA_noexc ..) (pureE_holds hp₂)
 exact itemA_sound I₂ (ev₂.has ho) hx hp₂ (fun v s' av cm hv hp=>hQ _ _ (QE.after ev₁ (QE.after ev₂ (qe_calm I₂ cm hv hp)))) hs
theorem slice_ok {ev:Expr→SL→RE} (hev:Ok prog w EO F env A ev) (I:Inv prog w F env sl ρ s) {v:Expr} {l u t:Option Expr} {p pos:Pos} :
  Tri prog w EO F env sl ρ s A (seqE (ev v sl) sl fun a sl=>pureE (sliceA sl a l u t)) (eval (.Subscript v (.Slice l u t p) pos) F.env):=fun P X Q E h hQ hE=>by
 refine Subscript_ (hev v sl ρ s I _ X _ _ (seqE_holds h) (fun o s₁ h₁=>?_) hE)
 obtain ⟨o₁,a,ρ₁,I₁,ho,ev₁,hp⟩:=h₁
 have hp:=pureE_holds hp
 unfold sliceA at hp
 split at hp
 ·rename_i n k p' _
  cases a with
  | «ints» ns=>
   obtain ⟨b,vs,m,rfl,hv,hi⟩:=ho
   obtain ⟨⟨z1,z2⟩,hp⟩:=hp
   have hn:=hi.length
   refine wpAny_Slice (wpAny_pure (wpAny_Constant_int (k:=k) (pos:=p') (wpAny_pure ?_)))
   let s₂:Shared:={ s₁ with heap:=s₁.heap.push { cls:=.type "slice",data:=.fields #[.none,.int (Int.ofNat n) s₁.toks,.none] },toks:=s₁.toks+1 }
   have cm:Calm F (o₁.getD sl) ρ₁ s₁ s₂:=.push _ _
   have hl:s₂.heap.IsList b vs.toArray:=⟨_,cm.keep _ _ hv.1,rfl,m,rfl⟩
   refine tail_any (T := "list") hl.typeIs PySem.F.slot_list_getitem.lookup (wpAny_getItem_list_slice hl (Heap.IsSliceOf.new ..) .none (.int _ _) .none (by simp) ?_ (by rw [List.size_toArray]; exact size_line (by omega))) rfl
   rw [show (Int.ofNat n)=(n:Int) from rfl,slicePick_upto']
   have I₂:=I₁.calm cm
   refine hQ _ _ (QE.after ev₁ (QE.calm cm (qe_calm I₂ (.push _ _) (av:=.ints (ns.take n)) ⟨_,vs.take n,0,rfl,vis_new I₂ (get_size _) ?_,?_⟩ hp)))
   ·rw [Heap.get?_push_size _ rfl]
   ·exact hi.take n
  | _=>exact hp.elim
 ·rename_i k p' p'' _
  cases a with
  | «lst» xs=>
   obtain ⟨b,vs,m,rfl,hv,hi⟩:=ho
   obtain ⟨hz,hp⟩:=guardB_holds hp
   have hn:=hi.length
   have hb:=blt_lt hz
   refine wpAny_Slice (wpAny_pure (wpAny_pure (wpAny_UnaryOp (pos:=p'') (wpAny_Constant_int (k:=k) (pos:=p') (PyProof.Rows.neg_int ?_)))))
   let s₂:Shared:={ s₁ with heap:=s₁.heap.push { cls:=.type "slice",data:=.fields #[.none,.none,.int (-1) (s₁.toks+1)] },toks:=s₁.toks+1+1 }
   have cm:Calm F (o₁.getD sl) ρ₁ s₁ s₂:=.push _ _
   have hl:s₂.heap.IsList b vs.toArray:=⟨_,cm.keep _ _ hv.1,rfl,m,rfl⟩
   refine tail_any (T := "list") hl.typeIs PySem.F.slot_list_getitem.lookup (wpAny_getItem_list_slice hl (Heap.IsSliceOf.new ..) .none .none (.int _ _) (by simp) ?_ (by rw [List.size_toArray]; exact size_line (by omega))) rfl
   rw [krv_pick]
   have I₂:=I₁.calm cm
   refine hQ _ _ (QE.after ev₁ (QE.calm cm (qe_calm I₂ (.push _ _) (av:=.lst xs.reverse) ⟨_,vs.reverse,0,rfl,vis_new I₂ (get_size _) ?_,?_⟩ hp)))
   ·rw [Heap.get?_push_size _ rfl]
   ·exact ((cm.trans (.push _ _)).evo.hasL hi).reverse
  | _=>exact hp.elim
 ·exact hp.elim
end Mine
end
section
open PySem.SeqAt
namespace Mine
variable {prog:Program} {w:World} {EO:Value→Shared→Prop} {F:Frm} {env:AEnv} {sl:SL} {ρ:List Addr} {s:Shared} {A:Around} {d:Nat}
theorem noStar_cons {e:Expr} {r:List Expr} (h:noStar (e :: r)=true):(∀ x p,e≠.Starred x p)∧noStar r=true:=by
 cases e<;>first | exact ⟨fun x p q=>(nomatch q),h⟩ | exact nomatch h
theorem starEach_cons {e:Expr} {r:List Expr} {env:Env} (h:∀ x p,e≠.Starred x p):starEach (e :: r) env=(false,eval e env) :: starEach r env:=by
 cases e<;>first | rfl | exact absurd rfl (h _ _)
theorem noStar_plain {env:Env} {pos:Pos}:∀ {args:List Expr},noStar args=true→(backTo pos (starEach args env)).any (·.1)=false∧(backTo pos (starEach args env)).all (fun x=>!x.1)=true
 | [],_=>⟨rfl,rfl⟩
 | e :: r,h=>by
  obtain ⟨h1,h2⟩:=noStar_cons h
  obtain ⟨i1,i2⟩:=noStar_plain (env:=env) (pos:=pos) h2
  rw [starEach_cons h1]
  exact ⟨by show (false||(backTo pos (starEach r env)).any (·.1))=false; rw [i1]; rfl,by show (true&&(backTo pos (starEach r env)).all (fun x=>!x.1))=true; rw [i2]; rfl⟩
theorem evalArgs_of {M:Model} {E:Value→Shared→Prop} {f:Value} {env:Env} {pos:Pos} {Q:Args→Shared→Prop}:∀ {args:List Expr},noStar args=true→wpAny M A (spliced (backTo pos (starEach args env))) (fun vs s'=>Q ⟨vs,[]⟩ s') E s →
  wpAny M A (evalArgs f true (backTo pos (starEach args env)) []) Q E s
 | [],_,h=>by
  unfold evalArgs
  show wpAny M A (spliced [] >>= _) Q E s
  refine wpAny_bind (wpAny_mono h (fun vs s' h'=>?_) fun _ _ x=>x)
  refine wpAny_holding ?_
  exact wpAny_bind (wpAny_pure (wpAny_bind (wpAny_pure (wpAny_pure h'))))
 | e :: r,hn,h=>by
  rw [starEach_cons (noStar_cons hn).1] at h ⊢
  exact evalArgs_plain h
theorem QE.afterL {o:Option SL} {ρ₁:List Addr} {s₁ s':Shared} {P:Option SL×AV→Prop} {v:Value} (ev₁:Evo F sl ρ s (o.getD sl) ρ₁ s₁) (h:QE prog w F env (o.getD sl) ρ₁ s₁ (fun q=>P (combO o q.1,q.2)) v s'):QE prog w F env sl ρ s P v s':=QE.after ev₁ h
theorem callK_ok {C:Ctx} (hF:FOK F C prog w A) {ev:Expr→SL→RE} (hev:Ok prog w EO F env A ev) (r:Room A d) (I:Inv prog w F env sl ρ s) {f:Str} {k:BK} {args:List Expr} {p pos:Pos} (hk:bkOf f=some k) (hg:F.env.scope.names.lookup f=some .globalImplicit) (hd:(f==("__debug__" : Str))=false) (hns:noStar args=true) :
  Tri prog w EO F env sl ρ s A (seqLE (evL ev args sl) sl fun l sl=>pureE (callK k sl l)) (eval (.Call (.Name f p) args [] pos) F.env):=fun P X Q E h hQ hE=>by
 obtain ⟨mg,mb,n1,n2,_,n4,_⟩:=hF.glob.names
 obtain ⟨e1,e2⟩:=n4 f k hk
 refine Call_Name rfl (Name_function_global hF.frm.kind hg (loadGlobal_builtin (mg:=mg) (mb:=mb) (by rw [hF.frm.glob]; exact n1.keeps I.base) e1 (by rw [hF.frm.blt]; exact n2.keeps I.base) e2 ?_) hd)
 have body:∀ (vs:List Value) (s₁:Shared),QL prog w F env sl ρ s (fun p=>((fun l sl=>pureE (callK k sl l)) p.2 (p.1.getD sl)).Holds (fun q=>P (combO p.1 q.1,q.2)) X) vs s₁→wpAny (model prog w) A (call k.val vs) Q E s₁:=fun vs s₁ h₁=>by
  obtain ⟨o,l,ρ₁,I₁,hl,ev₁,hp⟩:=h₁
  have hp:=NoExc.holds (callK_noexc ..) (pureE_holds hp)
  exact callK_sound r I₁ hl hp fun v s' av cm hv hp=>hQ _ _ (QE.after ev₁ (qe_calm I₁ cm hv hp))
 have args_ok:wpAny (model prog w) A (evalArgs k.val true (backTo pos (starEach args F.env)) []) (fun a s₁=>wpAny (model prog w) A (call k.val ([]++a.pos) a.kw) Q E s₁) E s:=
  evalArgs_of hns (evL_ok hev pos args sl ρ s I _ X _ _ (seqLE_holds h) (fun vs s₁ h₁=>body vs s₁ h₁) hE)
 cases k
 ·exact callWith_builtin (noStar_plain hns).1 args_ok
 ·exact PyProof.Rows.callWith_type (noStar_plain hns).1 args_ok
 ·exact callWith_builtin (noStar_plain hns).1 args_ok
 ·exact callWith_builtin (noStar_plain hns).1 args_ok
 ·exact PyProof.Rows.callWith_type (noStar_plain hns).1 args_ok
 ·exact PyProof.Rows.callWith_type (noStar_plain hns).1 args_ok
 ·exact PyProof.Rows.callWith_type (noStar_plain hns).1 args_ok
theorem frzLE_ok {l:List AV} {vs:List Value} {P:Option SL×List AV→Prop} {X:Prop} (I:Inv prog w F env sl ρ s) (hl:HasL prog w (Vw F sl ρ s.heap) ρ l vs) (h:(frzLE sl l).Holds P X) :
  ∃ o l',Inv prog w F env (o.getD sl) ρ s∧HasL prog w (Vw F (o.getD sl) ρ s.heap) ρ l' vs∧Evo F sl ρ s (o.getD sl) ρ s∧pureL l'=true∧P (o,l'):=by
 unfold frzLE at h
 split at h
 ·rename_i hp
  exact ⟨none,l,I,hl,.refl ..,hp,h⟩
 ·split at h
  ·rename_i sl' l' e
   obtain ⟨hz,h⟩:=guardB_holds h
   obtain ⟨f1,f2⟩:=frzL_ok 64 sl l sl' l' vs e I hl
   exact ⟨some sl',l',f1.1,f2,f1.2,hz,h⟩
  ·exact h.elim
theorem frzE_ok {l:AV} {vs:Value} {P:Option SL×AV→Prop} {X:Prop} (I:Inv prog w F env sl ρ s) (hl:Has prog w (Vw F sl ρ s.heap) ρ l vs) (h:(frzE sl l).Holds P X) :
  ∃ o l',Inv prog w F env (o.getD sl) ρ s∧Has prog w (Vw F (o.getD sl) ρ s.heap) ρ l' vs∧Evo F sl ρ s (o.getD sl) ρ s∧pureA l'=true∧P (o,l'):=by
 unfold frzE at h
 split at h
 ·rename_i hp
  exact ⟨none,l,I,hl,.refl ..,hp,h⟩
 ·split at h
  ·rename_i sl' l' e
   obtain ⟨hz,h⟩:=guardB_holds h
   obtain ⟨f1,f2⟩:=frz_ok 64 sl l sl' l' vs e I hl
   exact ⟨some sl',l',f1.1,f2,f1.2,hz,h⟩
  ·exact h.elim
theorem Room.less {n:Nat} (r:Room A d) (h:n≤d):Room A n:=by
 obtain ⟨h1,h2,h3⟩:=r
 exact ⟨by omega,by omega,h3⟩
theorem callF_ok {C:Ctx} (hF:FOK F C prog w A) {ev:Expr→SL→RE} (hev:Ok prog w EO F env A ev) (r:Room A d) (I:Inv prog w F env sl ρ s) {f:Str} {fn:Fn} {args:List Expr} {p pos:Pos} (hk:C.funs.lookup f=some fn) (hfd:fn.height<d) (hg:F.env.scope.names.lookup f=some .globalImplicit) (hd:(f==("__debug__" : Str))=false) (hns:noStar args=true) :
  Tri prog w EO F env sl ρ s A (seqLE (evL ev args sl) sl fun l sl=>seqLE (frzLE sl l) sl fun l _=>pureE (fn.spec l)) (eval (.Call (.Name f p) args [] pos) F.env):=fun P X Q E h hQ hE=>by
 obtain ⟨mg,mb,n1,n2,_,_,n5,_⟩:=hF.glob.names
 obtain ⟨a,o,fd,e1,e2,e3,hfn,hne⟩:=n5 f fn hk
 refine Call_Name rfl (Name_function_global hF.frm.kind hg (loadGlobal_global (mg:=mg) (by rw [hF.frm.glob]; exact n1.keeps I.base) e1 ?_) hd)
 refine callWith_function (o:=o) (fd:=fd) (evalArgs_of hns (evL_ok hev pos args sl ρ s I _ X _ _ (seqLE_holds h) (fun vs s₁ h₁=>?_) hE))
 obtain ⟨o₁,l,ρ₁,I₁,hl,ev₁,hp⟩:=h₁
 refine ⟨⟨I₁.base a o e2,e3⟩,?_⟩
 obtain ⟨o₂,l',I₂,hl',ev₂,hpl,hp⟩:=frzLE_ok I₁ hl (seqLE_holds hp)
 have hp:=NoExc.holds (hne _) (pureE_holds hp)
 exact hfn (Bad F (o₂.getD (o₁.getD sl)) ρ₁) (Around1 F) s₁ A vs l' _ Q E I₁.base I₂.low Around1.bad I₂.around1 hF.frm.frames (r.less hfd) (pureL_has _ _ hpl hl') hp fun v s' av g hv hP=>hQ _ _ (QE.after ev₁ (QE.after ev₂ (let ⟨I₃,ev₃⟩:=I₂.called g.keep g.gens g.drawn g.os; ⟨none,av,ρ₁,I₃,nil_has hv,ev₃,hP⟩)))
theorem callW_ok {C:Ctx} (hF:FOK F C prog w A) {ev:Expr→SL→RE} (hev:Ok prog w EO F env A ev) (r:Room A d) (I:Inv prog w F env sl ρ s) {f:Str} {wf:WFn} {wx:Expr} {rest:List Expr} {p pos:Pos} (hk:C.wfuns.lookup f=some wf) (hfd:wf.height<d) (hg:F.env.scope.names.lookup f=some .globalImplicit) (hd:(f==("__debug__" : Str))=false)
  (hw:isWell wx=true) {n:Nat} (hn:env.lookup ("well" : Str)=some (.loc n)) (hns:noStar (wx :: rest)=true) :
  Tri prog w EO F env sl ρ s A (seqLE (evL ev rest sl) sl fun l sl=>seqLE (frzLE sl l) sl fun l sl=>(match sl[n]? with
   | some (.own (.lst items))=>(match pureL items with
    | true=>(wf.spec items l).bind fun q=>.ret (some (sl.set n (.own (.lst q.1))),q.2)
    | false=>.fail)
   | _=>.fail)) (eval (.Call (.Name f p) (wx :: rest) [] pos) F.env):=fun P X Q E h hQ hE=>by
 obtain ⟨mg,mb,n1,n2,_,_,_,n6⟩:=hF.glob.names
 obtain ⟨a,o,fd,e1,e2,e3,hfn,hne⟩:=n6 f wf hk
 refine Call_Name rfl (Name_function_global hF.frm.kind hg (loadGlobal_global (mg:=mg) (by rw [hF.frm.glob]; exact n1.keeps I.base) e1 ?_) hd)
 refine callWith_function (o:=o) (fd:=fd) (evalArgs_of hns ?_)
 rw [starEach_cons (noStar_cons hns).1]
 unfold isWell at hw
 split at hw
 ·rename_i x p'
  have hx:=eq_of_beq hw
  subst hx
  have wv:∃ wa,ρ[n]?=some wa∧∀ (Q:Value→Shared→Prop),Q (.ref wa) s→wpAny (model prog w) A (eval (.Name "well" p') F.env) Q E s:=by
   rcases I.kind _ _ hn with k | k | k
   ·obtain ⟨m,h1,h2⟩:=I.ns
    obtain ⟨v,e1,wa,e2,e3⟩:=h2 _ _ hn k
    subst e3
    exact ⟨wa,e2,fun Q hq=>wpAny_Name (wpAny_loadName_local hF.frm.kind k h1 e1 hq)⟩
   ·obtain ⟨c,v,e1,e2,wa,e3,e4⟩:=I.cell _ _ hn (.inl k)
    subst e4
    exact ⟨wa,e3,fun Q hq=>wpAny_Name (wpAny_loadName_cell hF.frm.kind k e1 e2 hq)⟩
   ·obtain ⟨c,v,e1,e2,wa,e3,e4⟩:=I.cell _ _ hn (.inr k)
    subst e4
    exact ⟨wa,e3,fun Q hq=>wpAny_Name (wpAny_loadName_free hF.frm.kind k e1 e2 hq)⟩
  obtain ⟨wa,hwa,hw⟩:=wv
  show wpAny _ _ (spliced ((false,eval (.Name "well" p') F.env) :: backTo pos (starEach rest F.env))) _ _ _
  refine spliced_cons (hw _ ?_)
  refine evL_ok hev pos rest sl ρ s I _ X _ _ (seqLE_holds h) (fun vs s₁ h₁=>?_) hE
  obtain ⟨o₁,l,ρ₁,I₁,hl,ev₁,hp⟩:=h₁
  refine ⟨⟨I₁.base a o e2,e3⟩,?_⟩
  obtain ⟨o₂,l',I₂,hl',ev₂,hpl,hp⟩:=frzLE_ok I₁ hl (seqLE_holds hp)
  dsimp only at hp
  have hwa₂:ρ₁[n]?=some wa:=ev₂.ext _ _ (ev₁.ext _ _ hwa)
  split at hp
  ·rename_i items hit
   split at hp
   ·rename_i hpi
    have hp:=NoExc.holds (hne _ _) (R.holds_bind hp)
    obtain ⟨ws,m,h3,h4⟩:=I₂.slots n wa _ hwa₂ hit
    refine hfn (Bad F (o₂.getD (o₁.getD sl)) ρ₁) (Around1 F) s₁ A wa ws m items vs l' _ Q E I₂.base I₂.low Around1.bad I₂.around1 hF.frm.frames (r.less hfd) (.inr (.inr (.inr ⟨n,_,hit,hwa₂⟩))) (I₂.own_around1 ⟨n,_,hit,hwa₂⟩) h3 (pureL_has _ _ hpi h4) (pureL_has _ _ hpl hl') hp fun v s' li ws' m' av kp hg hd ho hget hli hv hP=>hQ _ _ (QE.after ev₁ (QE.after ev₂ ?_))
    obtain ⟨I₃,ev₃⟩:=I₂.storeF (c':=.lst li) hit hwa₂ kp hg hd ho ⟨ws',m',hget,nil_hasL hli⟩
    exact ⟨some _,av,ρ₁,I₃,by rw [Option.getD_some,vw_set hit]; exact nil_has hv,ev₃,hP⟩
   ·exact hp.elim
  ·exact hp.elim
 ·exact nomatch hw
theorem callM_ok {ev:Expr→SL→RE} (hev:Ok prog w EO F env A ev) (I:Inv prog w F env sl ρ s) {o:Expr} {m:Str} {k:MK} {args:List Expr} {apos pos:Pos} (hm:mkOf m=some k) (hl:(apos.endLine==pos.line)=true) (ho:isPlainO o=true) (hlen:args.length<20) (hns:noStar args=true)
  {argsR:SL→RL} (hargs:∀ sl ρ s,Inv prog w F env sl ρ s→TriL prog w EO F env sl ρ s A (argsR sl) (spliced (backTo pos (starEach args F.env)))) :
  Tri prog w EO F env sl ρ s A (seqE (ev o sl) sl fun a sl=>guardB (onK k sl a) (seqLE (argsR sl) sl fun l sl=>callMK k sl a l)) (eval (.Call (.Attribute o m apos) args [] pos) F.env):=fun P X Q E h hQ hE=>by
 obtain ⟨f1,f2,f3⟩:=mk_facts hm
 have hbase:attributeBase o m F.env (eval o F.env)=eval o F.env:=by
  unfold attributeBase
  split
  ·rename_i id p' p''
   have hid:id != "super" := by
    have:(!(id==("super" : Str)))=true:=ho
    exact this
   rw [if_pos (by simp [hid])]
  ·rfl
 have hp:=noStar_plain (env:=F.env) (pos:=pos) hns
 refine wpAny_Call_method_late hbase ?_ hl rfl ?_
 ·rw [hp.2]
  simp only [keywordEach,backToKw,List.map_nil,List.all_nil,Bool.true_and,List.length_nil,Nat.add_zero,List.isEmpty_nil,if_true,decide_eq_true_eq]
  omega
 refine hev o sl ρ s I _ X _ _ (seqE_holds h) (fun v s₁ h₁=>?_) hE
 obtain ⟨o₁,a,ρ₁,I₁,hv,ev₁,hp₁⟩:=h₁
 obtain ⟨hz,hp₁⟩:=guardB_holds hp₁
 obtain ⟨t1,t2⟩:=onK_type I₁ hz hv
 refine ⟨k.ty,k.id,f1,f2,f3,t1,t2,?_⟩
 refine callWith_builtin hp.1 (evalArgs_of hns (hargs _ ρ₁ s₁ I₁ _ X _ _ (seqLE_holds hp₁) (fun vs s₂ h₂=>?_) (hE.after ev₁)))
 obtain ⟨o₂,l,ρ₂,I₂,hl₂,ev₂,hp₂⟩:=h₂
 exact callMK_sound I₂ (ev₂.has hv) hl₂ hp₂ fun v' s' hq=>hQ _ _ (QE.after ev₁ (QE.after ev₂ hq))
end Mine
end
section
open PySem.SeqAt
namespace Mine
variable {prog:Program} {w:World} {EO:Value→Shared→Prop} {F:Frm} {env:AEnv} {sl:SL} {ρ:List Addr} {s:Shared} {A:Around} {d:Nat}
theorem own_add {c:AV} {d b:Addr} (hl:ρ.length=sl.length):OwnA (sl++[Slot.own c]) (ρ++[d]) b↔OwnA sl ρ b∨b=d:=by
 constructor
 ·rintro ⟨n,e,h1,h2⟩
  rcases Nat.lt_trichotomy n sl.length with h | h | h
  ·rw [List.getElem?_append_left h] at h1
   rw [List.getElem?_append_left (by omega)] at h2
   exact .inl ⟨n,e,h1,h2⟩
  ·subst h
   rw [List.getElem?_append_right (by omega),hl,Nat.sub_self] at h2
   exact .inr (by simpa using h2.symm)
  ·rw [List.getElem?_append_right (by omega)] at h1
   have:n - sl.length=(n - sl.length - 1)+1:=by omega
   rw [this] at h1; simp at h1
 ·rintro (⟨n,e,h1,h2⟩ | e)
  ·have:=(List.getElem?_eq_some_iff.mp h1).1
   exact ⟨n,e,by rw [List.getElem?_append_left this]; exact h1,by rw [List.getElem?_append_left (by omega)]; exact h2⟩
  ·exact ⟨sl.length,c,by simp,by rw [← hl,e]; simp⟩
theorem mut_add {c:AV} {d b:Addr} (hl:ρ.length=sl.length):Mut F (sl++[Slot.own c]) (ρ++[d]) b↔Mut F sl ρ b∨b=d:=by
 unfold Mut
 rw [own_add hl]
 constructor
 ·rintro (h | h | h | h)
  ·exact .inl (.inl h)
  ·exact .inl (.inr (.inl h))
  ·exact .inl (.inr (.inr h))
  ·exact .inr h
 ·rintro ((h | h | h) | h)
  ·exact .inl h
  ·exact .inr (.inl h)
  ·exact .inr (.inr (.inl h))
  ·exact .inr (.inr (.inr h))
theorem bad_add {c:AV} {d b:Addr} (hl:ρ.length=sl.length):Bad F (sl++[Slot.own c]) (ρ++[d]) b↔Bad (F.hide d) sl ρ b:=by
 rw [bad_hide]
 unfold Bad
 rw [mut_add hl,or_assoc]
theorem vw_add {c:AV} {d:Addr} {h:Heap} (hl:ρ.length=sl.length):Vw F (sl++[Slot.own c]) (ρ++[d]) h=Vw (F.hide d) sl ρ h:=by
 funext a o
 unfold Vw
 rw [bad_add hl]
theorem ext_add {d:Addr} (n:Nat) (a:Addr) (h:ρ[n]?=some a):(ρ++[d])[n]?=some a:=by
 rw [List.getElem?_append_left (List.getElem?_eq_some_iff.mp h).1]; exact h
theorem Inv.adopt {d:Addr} {c:AV} (I:Inv prog w (F.hide d) env sl ρ s) {s':Shared} (keep:∀ a o,a≠d→s.heap.get? a=some o→s'.heap.get? a=some o) (hX:¬ F.X d)
  (hc:OwnAt prog w (Vw (F.hide d) sl ρ s'.heap) (ρ++[d]) s'.heap d c):Inv prog w F env (sl++[Slot.own c]) (ρ++[d]) s':=by
 have hl:=I.len
 have hbd:Bad (F.hide d) sl ρ d:=bad_hide.mpr (.inr rfl)
 have hv:∀ b o,Vw (F.hide d) sl ρ s.heap b o→Vw (F.hide d) sl ρ s'.heap b o:=fun b o h=>⟨keep b o (fun e=>h.2.1 (bad_hide.mpr (.inr e))) h.1,h.2⟩
 have ned:∀ a,Mut F sl ρ a→a≠d:=fun a h e=>by
  subst e
  rcases h with h | ⟨x,h⟩ | h
  ·exact I.locX.1 (.inr h.symm)
  ·exact I.locX.2 x _ h (.inr rfl)
  ·exact (I.ownNe _ h).2.2 (.inr rfl)
 refine ⟨fun a o e=>keep a o (fun q=>by subst q; have e':F.base.get? a=none:=(I.low a hbd).1; rw [e'] at e; exact nomatch e) (I.base a o e),I.sm,fun a h=>?_,?_,?_,I.kind,?_,by simp [hl],?_,?_,fun a h=>?_,⟨fun q=>I.locX.1 (.inl q),fun x c e q=>I.locX.2 x c e (.inl q)⟩,fun a h=>let ⟨o,e,q⟩:=I.frs a h; ⟨o,keep a o (fun z=>hX (z ▸ F.frX a h)) e,q⟩⟩
 ·have h:=(bad_add hl).mp h
  refine ⟨(I.low a h).1,?_⟩
  obtain ⟨o,e⟩:=(I.low a h).2
  by_cases q:a=d
  ·subst q; exact hc.live
  ·exact ⟨o,keep a o q e⟩
 ·rw [vw_add hl]
  obtain ⟨m,h1,h2⟩:=I.ns
  exact ⟨m,h1.at fun o e=>keep _ o (ned _ (.inl rfl)) e,fun x av e k=>let ⟨v,e1,e2⟩:=h2 x av e k; ⟨v,e1,Has.mono prog w hv ext_add av v e2⟩⟩
 ·rw [vw_add hl]
  intro x av e k
  obtain ⟨q,v,e1,⟨o,e2,e3⟩,e4⟩:=I.cell x av e k
  exact ⟨q,v,e1,⟨o,keep q o (ned q (.inr (.inl ⟨x,mem_of_lookup e1⟩))) e2,e3⟩,Has.mono prog w hv ext_add av v e4⟩
 ·intro x c e
  obtain ⟨⟨ov,o,h1,h2⟩,h3⟩:=I.cells x c e
  exact ⟨⟨ov,o,keep c o (ned c (.inr (.inl ⟨x,e⟩))) h1,h2⟩,h3⟩
 ·rw [vw_add hl]
  intro n a σ e1 e2
  by_cases hn:n<sl.length
  ·rw [List.getElem?_append_left hn] at e2
   rw [List.getElem?_append_left (by omega)] at e1
   have k:=I.slots n a σ e1 e2
   cases σ with
   | frz t=>exact Has.mono prog w hv ext_add t _ k
   | own c'=>
    exact SlotAt.calm (σ:=.own c') hv ext_add (fun o ho=>keep a o (ned a (.inr (.inr ⟨n,c',e2,e1⟩))) ho) k
  ·have hlt:=(List.getElem?_eq_some_iff.mp e2).1
   have hn:n=sl.length:=by simp at hlt; omega
   subst hn
   rw [List.getElem?_append_right (by omega),Nat.sub_self] at e2
   rw [List.getElem?_append_right (by omega),hl,Nat.sub_self] at e1
   have e1:d=a:=by simpa using e1
   have e2:Slot.own c=σ:=by simpa using e2
   subst e1 e2
   exact hc
 ·intro n m a c₁ c₂ h1 h2 h3 h4
  have len:∀ n,n<(sl++[Slot.own c]).length→n<sl.length∨n=sl.length:=fun n h=>by simp at h; omega
  have at':∀ n (x:Addr) (e:AV),n<sl.length→(sl++[Slot.own c])[n]?=some (Slot.own e)→(ρ++[d])[n]?=some x→sl[n]?=some (Slot.own e)∧ρ[n]?=some x:=fun n x e hn h1 h2=>by
   rw [List.getElem?_append_left hn] at h1
   rw [List.getElem?_append_left (by omega)] at h2
   exact ⟨h1,h2⟩
  have last:∀ x,(ρ++[d])[sl.length]?=some x→x=d:=fun x h=>by
   rw [List.getElem?_append_right (by omega),hl,Nat.sub_self] at h
   simpa using h.symm
  rcases len n (List.getElem?_eq_some_iff.mp h1).1 with hn | hn<;>rcases len m (List.getElem?_eq_some_iff.mp h2).1 with hm | hm
  ·obtain ⟨k1,k2⟩:=at' n a c₁ hn h1 h3
   obtain ⟨k3,k4⟩:=at' m a c₂ hm h2 h4
   exact I.apart n m a _ _ k1 k3 k2 k4
  ·obtain ⟨k1,k2⟩:=at' n a c₁ hn h1 h3
   subst hm
   exact absurd (last a h4) (ned a (.inr (.inr ⟨n,_,k1,k2⟩)))
  ·obtain ⟨k3,k4⟩:=at' m a c₂ hm h2 h4
   subst hn
   exact absurd (last a h3) (ned a (.inr (.inr ⟨m,_,k3,k4⟩)))
  ·omega
 ·rcases (own_add hl).mp h with h | e
  ·obtain ⟨h1,h2,h3⟩:=I.ownNe a h
   exact ⟨h1,h2,fun q=>h3 (.inl q)⟩
  ·subst e
   exact ⟨fun q=>I.locX.1 (.inr q.symm),fun x q=>I.locX.2 x _ q (.inr rfl),hX⟩
theorem Evo.adopt {d:Addr} {c:AV} {sl₁:SL} {ρ₁:List Addr} {s₁ s':Shared} (x:Evo F sl ρ s sl₁ ρ₁ s₁) (hl:ρ₁.length=sl₁.length) (hd:s.heap.get? d=none) (keep:∀ a o,a≠d→s₁.heap.get? a=some o→s'.heap.get? a=some o) (hg:s'.gens=s₁.gens) (hdr:s'.drawn=s₁.drawn) (ho:s'.os=s₁.os) :
  Evo F sl ρ s (sl₁++[Slot.own c]) (ρ₁++[d]) s':=
 ⟨fun a o e hm=>(x.keep a o e hm).trans fun o' e'=>.of (keep a o' (fun q=>by subst q; rw [hd] at e; exact nomatch e) e'),hg.trans x.gens,hdr.trans x.drawn,ho.trans x.os,fun n a e=>ext_add n a (x.ext n a e),
  fun a h=>((mut_add hl).mp h).elim (x.mu a) fun e=>by subst e; exact .inr hd,
  fun a o e=>let ⟨o',e'⟩:=x.live a o e; ⟨o',keep a o' (fun q=>by subst q; rw [hd] at e; exact nomatch e) e'⟩⟩
theorem Inv.fresh (I:Inv prog w F env sl ρ s) {d:Addr} (hd:s.heap.get? d=none):¬ Bad F sl ρ d:=fun q=>by
 obtain ⟨_,o,e⟩:=I.low d q
 rw [hd] at e; exact nomatch e
theorem own_list_ok {ev:Expr→SL→RE} (hev:Ok prog w EO F env A ev) (I:Inv prog w F env sl ρ s) {elts:List Expr} {pos:Pos} :
  Tri prog w EO F env sl ρ s A (seqLE (evL ev elts sl) sl fun l sl=>guardB (Nat.blt l.length 16777216) (.ret (some (sl++[Slot.own (.lst l)]),.loc sl.length))) (eval (.List elts pos) F.env):=fun P X Q E h hQ hE=>by
 rw [arm_eval_List]
 refine wpAny_bind (wpAny_standAt (wpAny_bind (evL_ok hev pos elts sl ρ s I _ X _ _ (seqLE_holds h) (fun vs s₁ h₁=>?_) hE)))
 obtain ⟨o,l,ρ₁,I₁,hl,ev₁,hp⟩:=h₁
 obtain ⟨hz,hp⟩:=guardB_holds hp
 have hb:l.length<16777216:=blt_lt hz
 have hn:=hl.length
 refine wpAny_newList (hQ _ _ ?_) (size_line (by omega))
 let s₂:Shared:={ s₁ with heap:=s₁.heap.push { cls:=.type "list",data:=.seq vs.toArray } }
 have g:Grow s₁ s₂:=Grow.push s₁ _
 have hg:s₂.heap.get? s₁.heap.objs.size=some (lstO vs 0):=Heap.get?_push_size _ rfl
 have I₂:=I₁.hide (s':=s₂) g.keep (get_size _) ⟨_,hg⟩
 have hvis:∀ b ob,Vw F (o.getD sl) ρ₁ s₁.heap b ob→Vw (F.hide s₁.heap.objs.size) (o.getD sl) ρ₁ s₂.heap b ob:=fun b ob hb=>by
  have hne:b≠s₁.heap.objs.size:=fun e=>by
   have h1:=hb.1
   rw [e,get_size] at h1; exact nomatch h1
  exact ⟨g.keep b ob hb.1,fun q=>(bad_hide.mp q).elim hb.2.1 hne,hb.2.2⟩
 have I₃:=I₂.adopt (c:=.lst l) (s':=s₂) (fun _ _ _ h=>h) (fun q=>I₁.fresh (get_size _) (.inl q)) ⟨vs,0,hg,HasL.mono prog w hvis ext_add _ _ hl⟩
 exact QE.after ev₁ ⟨some _,.loc (o.getD sl).length,ρ₁++[s₁.heap.objs.size],I₃,⟨_,by rw [← I₁.len]; simp,rfl⟩,Evo.adopt (.refl ..) I₁.len (get_size _) (fun a ob _ h=>g.keep a ob h) rfl rfl rfl,hp⟩
theorem own_dict_ok {ev:Expr→SL→RE} (hev:∀ d,Ok prog w EO (F.hide d) env A ev) (I:Inv prog w F env sl ρ s) {keys:List (Option Expr)} {values:List Expr} {pos:Pos} :
  Tri prog w EO F env sl ρ s A (match keysS keys,decide (keys.length=values.length∧keys.length≤15) with
  | some ks,true=>(match decide ks.Nodup with
   | true=>seqLE (evL ev values sl) sl fun l sl=>.ret (some (sl++[Slot.own (.dS ks l)]),.loc sl.length)
   | false=>.fail)
  | _,_=>.fail) (eval (.Dict keys values pos) F.env):=fun P X Q E h hQ hE=>by
 split at h
 ·rename_i ks hk hd
  obtain ⟨hl,hlen⟩:=of_decide_eq_true hd
  split at h
  ·rename_i hnd
   have hnd:=of_decide_eq_true hnd
   obtain ⟨hall,hkl⟩:=keysS_parts hk
   let D:=s.heap.objs.size
   let s₀:Shared:={ s with heap:=s.heap.push { cls:=.type "dict",data:=.dict #[] } }
   have hnew:s.heap.get? D=none:=get_size _
   have hobj:s₀.heap.get? D=some { cls:=.type "dict",data:=.dict #[] }:=Heap.get?_push_size _ rfl
   have g:Grow s s₀:=Grow.push s { cls:=.type "dict",data:=.dict #[] }
   have Ip:Inv prog w (F.hide D) env sl ρ s₀:=I.hide g.keep hnew ⟨_,hobj⟩
   have fx:¬ F.X D:=fun q=>I.fresh hnew (.inl q)
   by_cases h0:keys=[]
   ·subst h0
    have hv:values=[]:=List.length_eq_zero_iff.mp hl.symm
    subst hv
    have hk:some []=some ks:=hk
    injection hk with hk; subst hk
    obtain ⟨o,h1,h2⟩:=Heap.dictOf_iff.mp (Heap.DictOf.new (knd:=PySem.strKind prog w) s.heap)
    have I₃:=Ip.adopt (c:=.dS [] []) (s':=s₀) (fun _ _ _ h=>h) fx ⟨o,[],h1,h2,rfl,rfl⟩
    exact wpAny_Dict_empty (hQ _ _ ⟨some _,.loc sl.length,ρ++[D],I₃,⟨D,by rw [← I.len]; simp,rfl⟩,Evo.adopt (.refl ..) I.len hnew (fun a ob _ h=>g.keep a ob h) rfl rfl rfl,h⟩)
   ·have nm:¬ Mut F sl ρ D:=fun q=>I.fresh hnew (.inr q)
    have nf:¬ F.fr D:=I.nfr hnew
    refine wpAny_Dict_walk (knd:=PySem.strKind prog w) hall hl h0 hlen ?_
    refine evalPairs_ok (hev D) pos keys values ks sl ρ _ hk hl Ip _ X _ _ (seqLE_holds h) (fun prs vs s₁ h₁ hc hn=>?_) ?_
    ·obtain ⟨o,l,ρ₁,I₁,hvs,ev₁,hp⟩:=h₁
     have hdo:s₁.heap.get? D=some { cls:=.type "dict",data:=.dict #[] }:=(ev₁.keep D _ hobj nm).exact nf
     refine ⟨_,hc,?_,fun h' hd' hsb=>?_⟩
     ·obtain ⟨o',e1,e2⟩:=Heap.dictOf_iff.mp (Heap.DictOf.new (knd:=PySem.strKind prog w) s.heap)
      have e1:s₀.heap.get? D=some o':=e1
      refine Heap.dictOf_iff.mpr ⟨o',?_,e2⟩
      rw [hdo,← hobj,← e1]
     ·rw [merged_nil_of_nodup _ (by rw [List.map_fst_zip (by omega)]; exact hnd)] at hd'
      obtain ⟨o',e1,e2⟩:=Heap.dictOf_iff.mp hd'
      have kp:=keep_sameBut hsb
      have hvis:∀ b ob,Vw (F.hide D) (o.getD sl) ρ₁ s₁.heap b ob→Vw (F.hide D) (o.getD sl) ρ₁ h' b ob:=fun b ob hb=>⟨kp b ob (fun e=>hb.2.1 (bad_hide.mpr (.inr e))) hb.1,hb.2⟩
      have I₃:=I₁.adopt (c:=.dS ks l) (s':={ s₁ with heap:=h',toks:=s₁.toks+prs.length }) kp fx ⟨o',vs,e1,e2,hn,HasL.mono prog w hvis ext_add _ _ hvs⟩
      refine hQ _ _ ⟨some ((o.getD sl)++[Slot.own (.dS ks l)]),.loc (o.getD sl).length,ρ₁++[D],I₃,⟨D,by rw [← I₁.len]; simp,rfl⟩,Evo.adopt (ev₁.unhide g) I₁.len hnew kp rfl rfl rfl,?_⟩
      have hp:P (combO o (some ((o.getD sl)++[Slot.own (.dS ks l)])),.loc (o.getD sl).length):=hp
      cases o<;>exact hp
    ·intro hX e s' p f he
     exact hE hX e s' (p.unhide g) (fun a ha=>g.dead (f a ha)) he
  ·exact h.elim
 ·exact h.elim
theorem evOwn_ok {ev:Expr→SL→RE} (hev:Ok prog w EO F env A ev) (hevH:∀ d,Ok prog w EO (F.hide d) env A ev) (I:Inv prog w F env sl ρ s) (e:Expr):Tri prog w EO F env sl ρ s A (evOwn ev e sl) (eval e F.env):=by
 cases e<;>first
  | exact own_list_ok hev I
  | exact own_dict_ok hevH I
  | exact hev _ _ _ _ I
theorem evOwns_ok {ev:Expr→SL→RE} (hev:Ok prog w EO F env A ev) (hevH:∀ d,Ok prog w EO (F.hide d) env A ev) (pos:Pos):∀ (es:List Expr) (sl:SL) (ρ:List Addr) (s:Shared),Inv prog w F env sl ρ s→TriL prog w EO F env sl ρ s A (evOwns ev es sl) (spliced (backTo pos (starEach es F.env)))
 | [],sl,ρ,s,I=>fun P X Q E h hQ _=>spliced_nil (hQ _ _ ⟨none,[],ρ,I,rfl,.refl ..,h⟩)
 | e :: r,sl,ρ,s,I=>by
  have main:(∀ x p,e≠.Starred x p)→TriL prog w EO F env sl ρ s A (evOwns ev (e :: r) sl) (spliced (backTo pos (starEach (e :: r) F.env))):=fun hne P X Q E h hQ hE=>by
   have e1:evOwns ev (e :: r) sl=seqL (evOwn ev e sl) sl fun v sl=>(evOwns ev r sl).bind fun q=>.ret (q.1,v :: q.2):=by
    cases e<;>first | rfl | exact absurd rfl (hne _ _)
   rw [e1] at h
   rw [starEach_cons hne]
   show wpAny _ _ (spliced ((false,eval e F.env) :: backTo pos (starEach r F.env))) _ _ _
   refine spliced_cons ?_
   refine evOwn_ok hev hevH I e _ X _ _ (seqL_holds h) (fun v s₁ h₁=>?_) hE
   obtain ⟨o,av,ρ₁,I₁,hv,ev₁,hp⟩:=h₁
   refine evOwns_ok hev hevH pos r _ ρ₁ s₁ I₁ _ X _ _ (R.holds_bind hp) (fun vs s₂ h₂=>hQ _ _ ?_) (hE.after ev₁)
   obtain ⟨o₂,avs,ρ₂,I₂,hvs,ev₂,hp₂⟩:=h₂
   refine ⟨combO o o₂,av :: avs,ρ₂,?_,?_,?_,hp₂⟩<;>rw [combO_getD]
   ·exact I₂
   ·exact ⟨v,vs,rfl,ev₂.has hv,hvs⟩
   ·exact ev₁.trans ev₂
  cases e with
  | Starred x p=>exact fun P X Q E h _ _=>h.elim
  | _=>exact main (fun x p h=>nomatch h)
end Mine
end
section
open PySem.SeqAt
namespace Mine
variable {prog:Program} {w:World} {EO:Value→Shared→Prop} {F:Frm} {env:AEnv} {sl:SL} {ρ:List Addr} {s:Shared} {A:Around} {d:Nat}
def Tame (o:Obj):Prop:=∀ n,o.cls=.type n→(["enumerate","zip","dict_itemiterator","dict_reverseitemiterator","odict_iterator","itertools.zip_longest","itertools.pairwise"]:List String).contains n=false
theorem tame_of {o:Obj} {n:String} (h:o.cls=.type n) (hn:(["enumerate","zip","dict_itemiterator","dict_reverseitemiterator","odict_iterator","itertools.zip_longest","itertools.pairwise"]:List String).contains n=false):Tame o:=fun m q=>by
 rw [h] at q
 injection q with q
 subst q; exact hn
structure IterAt (prog:Program) (w:World) (A:Around) (F:Frm) (sl:SL) (ρ:List Addr) (s₀ s₁:Shared) (I:Addr) (items:List AV) (fp:List Addr) (n:Nat) (P:Nat→Value→Prop) (St:Nat→Heap→Prop):Prop where
 new:s₀.heap.get? I=none
 live:∃ o,s₁.heap.get? I=some o
 stLive:∀ i h,St i h→∃ o,h.get? I=some o∧Tame o
 grow:Grow s₀ s₁
 walks:Walks prog w A I fp [I] n P St
 st:St 0 s₁.heap
 len:n=items.length
 fp:∀ b∈fp,b=I∨∃ o,Vw F sl ρ s₀.heap b o
 has:∀ i v,i<n→P i v→∃ av,items[i]?=some av∧Has prog w (Vw F sl ρ s₀.heap) ρ av v
theorem upFrom_length (c:Int):∀ (n:Nat) (a:Int),(upFrom a c n).length=n
 | 0,_=>rfl
 | n+1,a=>by simp [upFrom,upFrom_length c n]
theorem upFrom_get (c:Int):∀ (n:Nat) (a:Int) (i:Nat),i<n→(upFrom a c n)[i]?=some (a+i*c)
 | n+1,a,0,_=>by simp [upFrom]
 | n+1,a,i+1,h=>by
  simp only [upFrom,List.getElem?_cons_succ]
  rw [upFrom_get c n (a+c) i (by omega)]
  congr 1; push_cast; rw [Int.add_mul]; omega
theorem pyIter_ok (hh:A.handled=none) (I:Inv prog w F env sl ρ s) {src:AV} {xv:Value} {items:List AV} (hi:iterA src=some items) (hx:Has prog w (Vw F sl ρ s.heap) ρ src xv) {Q E:Value→Shared→Prop}
  (hQ:∀ J s₁ fp n P St,IterAt prog w A F sl ρ s s₁ J items fp n P St→Q (.ref J) s₁):wpAny (model prog w) A (pyIter xv) Q E s:=by
 have ne:∀ {a:Addr} {o:Obj},s.heap.get? a=some o→a≠s.heap.objs.size:=fun e q=>Nat.lt_irrefl _ (q ▸ Heap.lt_size e)
 unfold iterA at hi
 split at hi
 ·injection hi with hi; subst hi
  obtain ⟨a,vs,n,rfl,hv,hl⟩:=hx
  have ht:s.heap.IsTuple a vs.toArray:=⟨_,hv.1,rfl,n,rfl⟩
  refine wpAny_pyIter_tuple ht (hQ _ _ _ _ _ _ ⟨get_size _,⟨_,Heap.get?_push_size _ rfl⟩,fun i h st=>(let ⟨o,e,hc,_⟩:=st.1; ⟨o,e,tame_of hc (by decide)⟩),Grow.push _ _,Walks.tuple hh _ a (ne hv.1) vs.toArray,⟨⟨_,Heap.get?_push_size _ rfl,rfl,rfl⟩,ht.push _⟩,by simp [hl.length],?_,?_⟩)
  ·intro b hb
   simp only [List.mem_cons,List.not_mem_nil,or_false] at hb
   rcases hb with e | e
   ·exact .inl e
   ·exact .inr ⟨_,e ▸ hv⟩
  ·intro i v _ e
   have e:vs[i]?=some v:=by simpa using e
   have hlt:i<vs.length:=(List.getElem?_eq_some_iff.mp e).1
   rw [hl.length] at hlt
   obtain ⟨u,hu,hh⟩:=hl.get (List.getElem?_eq_getElem hlt)
   rw [e] at hu; injection hu with hu; subst hu
   exact ⟨_,List.getElem?_eq_getElem hlt,hh⟩
 ·injection hi with hi; subst hi
  obtain ⟨a,vs,n,rfl,hv,hl⟩:=hx
  have ht:s.heap.IsList a vs.toArray:=⟨_,hv.1,rfl,n,rfl⟩
  refine wpAny_pyIter_list ht (hQ _ _ _ _ _ _ ⟨get_size _,⟨_,Heap.get?_push_size _ rfl⟩,fun i h st=>(let ⟨o,e,hc,_⟩:=st.1; ⟨o,e,tame_of hc (by decide)⟩),Grow.push _ _,Walks.list hh _ a (ne hv.1) vs.toArray,⟨⟨_,Heap.get?_push_size _ rfl,rfl,rfl⟩,ht.push _⟩,by simp [hl.length],?_,?_⟩)
  ·intro b hb
   simp only [List.mem_cons,List.not_mem_nil,or_false] at hb
   rcases hb with e | e
   ·exact .inl e
   ·exact .inr ⟨_,e ▸ hv⟩
  ·intro i v _ e
   have e:vs[i]?=some v:=by simpa using e
   have hlt:i<vs.length:=(List.getElem?_eq_some_iff.mp e).1
   rw [hl.length] at hlt
   obtain ⟨u,hu,hh⟩:=hl.get (List.getElem?_eq_getElem hlt)
   rw [e] at hu; injection hu with hu; subst hu
   exact ⟨_,List.getElem?_eq_getElem hlt,hh⟩
 ·injection hi with hi; subst hi
  obtain ⟨a,vs,n,rfl,hv,hi⟩:=hx
  have hl:=hi.hasL (prog:=prog) (w:=w) (V:=Vw F sl ρ s.heap) (ρ:=ρ)
  have ht:s.heap.IsList a vs.toArray:=⟨_,hv.1,rfl,n,rfl⟩
  refine wpAny_pyIter_list ht (hQ _ _ _ _ _ _ ⟨get_size _,⟨_,Heap.get?_push_size _ rfl⟩,fun i h st=>(let ⟨o,e,hc,_⟩:=st.1; ⟨o,e,tame_of hc (by decide)⟩),Grow.push _ _,Walks.list hh _ a (ne hv.1) vs.toArray,⟨⟨_,Heap.get?_push_size _ rfl,rfl,rfl⟩,ht.push _⟩,by rw [List.size_toArray,hl.length],?_,?_⟩)
  ·intro b hb
   simp only [List.mem_cons,List.not_mem_nil,or_false] at hb
   rcases hb with e | e
   ·exact .inl e
   ·exact .inr ⟨_,e ▸ hv⟩
  ·intro i v _ e
   have e:vs[i]?=some v:=by simpa using e
   have hlt:i<vs.length:=(List.getElem?_eq_some_iff.mp e).1
   rw [hl.length] at hlt
   obtain ⟨u,hu,hh⟩:=hl.get (List.getElem?_eq_getElem hlt)
   rw [e] at hu; injection hu with hu; subst hu
   exact ⟨_,List.getElem?_eq_getElem hlt,hh⟩
 ·injection hi with hi; subst hi
  rename_i x
  obtain ⟨t,rfl⟩:=hx
  have sg:∀ i v,i<x.cps.size→SignAt x i v→∃ av,(charsOf x)[i]?=some av∧Has prog w (Vw F sl ρ s.heap) ρ av v:=fun i v _ ⟨c,u,e1,e2⟩=>by
   refine ⟨.str ⟨#[c]⟩,?_,u,e2⟩
   simp only [charsOf,List.getElem?_map,Array.getElem?_toList,e1]; rfl
  have fpk:∀ b∈[s.heap.objs.size],b=s.heap.objs.size∨∃ o,Vw F sl ρ s.heap b o:=fun b hb=>.inl (by simpa using hb)
  cases ha:x.cps.all (·<128) with
  | true=>exact wpAny_pyIter_ascii ha (hQ _ _ _ _ _ _ ⟨get_size _,⟨_,Heap.get?_push_size _ rfl⟩,fun i h st=>(let ⟨o,e,hc,_⟩:=st; ⟨o,e,tame_of hc (by decide)⟩),Grow.push _ _,Walks.strAscii hh _ x t,⟨_,Heap.get?_push_size _ rfl,rfl,rfl⟩,by simp [charsOf],fpk,sg⟩)
  | false=>exact wpAny_pyIter_wide ha (hQ _ _ _ _ _ _ ⟨get_size _,⟨_,Heap.get?_push_size _ rfl⟩,fun i h st=>(let ⟨o,e,hc,_⟩:=st; ⟨o,e,tame_of hc (by decide)⟩),Grow.push _ _,Walks.strWide hh _ x t,⟨_,Heap.get?_push_size _ rfl,rfl,rfl⟩,by simp [charsOf],fpk,sg⟩)
 ·injection hi with hi; subst hi
  rename_i ks l
  obtain ⟨a,o,vs,rfl,hv,⟨es,ep,h1,h2,h3,h4,h5⟩,hl,hh'⟩:=hx
  have hd:s.heap.DictAt (PySem.strKind prog w) a (ks.zip vs) ep:=⟨o,es,hv.1,h1,h2,h3,h4,h5⟩
  refine wpAny_pyIter_dict hv.2.2 hd (hQ _ _ _ _ _ _ ⟨get_size _,⟨_,Heap.get?_push_size _ rfl⟩,fun i h st=>(let ⟨o,e,hc,_⟩:=st.1; ⟨o,e,tame_of hc (by decide)⟩),Grow.push _ _,Walks.dictKeys hh _ a (ne hv.1) (ks.zip vs) ep,⟨⟨_,Heap.get?_push_size _ rfl,rfl,rfl⟩,hd.at' fun o e=>Heap.get?_push_of_some _ e⟩,by simp [hl],?_,?_⟩)
  ·intro b hb
   simp only [List.mem_cons,List.not_mem_nil,or_false] at hb
   rcases hb with e | e
   ·exact .inl e
   ·exact .inr ⟨_,e ▸ hv⟩
  ·rintro i v _ ⟨k,x,e,hk⟩
   obtain ⟨t,rfl⟩:=Value.isStrOf_shape hk
   refine ⟨.str k,?_,t,rfl⟩
   have e':ks[i]?=some k:=by
    rw [List.getElem?_zip_eq_some] at e
    exact e.1
   rw [List.getElem?_map,e']; rfl
 ·split at hi
  ·rename_i a b c _ hr
   injection hi with hi; subst hi
   obtain ⟨p,t,u,x,rfl,hv⟩:=hx
   obtain ⟨h1,h2,h3⟩:=rngOk_and hr
   refine wpAny_pyIter_range (c:=c) hv.1 h1 (hQ _ _ _ _ _ _ ⟨get_size _,⟨_,Heap.get?_push_size _ rfl⟩,fun i h st=>⟨_,st,tame_of rfl (by decide)⟩,Grow.push _ _,Walks.range hh _ a c (Builtin.Range.rangeSize a b c).toNat,?_,by simp [rngL,upFrom_length],?_,?_⟩)
   ·show IsRangeIter _ _ _ _ _
    have e1:a+((0:Nat):Int)*c=a:=by simp
    have e2:((Builtin.Range.rangeSize a b c).toNat:Int) - ((0:Nat):Int)=Builtin.Range.rangeSize a b c:=by rw [← h2]; simp
    rw [e1,e2]
    exact Heap.get?_push_size _ rfl
   ·exact fun b hb=>.inl (by simpa using hb)
   ·rintro i v hlt ⟨t',e⟩
    refine ⟨.num (a+i*c),?_,t',e⟩
    rw [List.getElem?_map,rngL,upFrom_get c _ a i hlt]; rfl
  ·exact nomatch hi
 ·exact nomatch hi
end Mine
end
section
open PySem.SeqAt
namespace Mine
variable {prog:Program} {w:World} {EO:Value→Shared→Prop} {F:Frm} {env:AEnv} {sl:SL} {ρ:List Addr} {s:Shared} {A:Around} {d:Nat}
theorem lookup_filter {x y:Str} (h:(y==x)=false):∀ (l:AEnv),(l.filter fun p=>!(p.1==x)).lookup y=l.lookup y
 | []=>rfl
 | (z,v) :: l=>by
  rw [List.filter_cons]
  cases e:z==x with
  | true=>
   have e':(y==z)=false:=by
    have:=eq_of_beq e
    subst this; exact h
   simp only [Bool.not_true,Bool.false_eq_true,if_false,List.lookup_cons,e']
   exact lookup_filter h l
  | false=>
   simp only [Bool.not_false,if_true,List.lookup_cons]
   rw [lookup_filter h l]
theorem lookup_put (x y:Str) (v:AV) (l:AEnv):(putEnv x v l).lookup y=if y=x then some v else l.lookup y:=by
 unfold putEnv
 rw [List.lookup_cons]
 by_cases e:y=x
 ·subst e; simp
 ·have h:(y==x)=false:=beq_eq_false_iff_ne.mpr e
  rw [h,if_neg e]
  exact lookup_filter h l
theorem Inv.rebind (I:Inv prog w F env sl ρ s) {b₀:Addr} (hb:b₀=F.env.locals∨∃ x,(x,b₀)∈F.env.cells) {s':Shared} (keep:∀ a o,a≠b₀→s.heap.get? a=some o→s'.heap.get? a=some o) (live:∃ o,s'.heap.get? b₀=some o)
  (hg:s'.gens=s.gens) (hd:s'.drawn=s.drawn) (ho:s'.os=s.os) {env':AEnv}
  (ns:(∀ a o,Vw F sl ρ s.heap a o→Vw F sl ρ s'.heap a o)→∃ m,s'.heap.Ns F.env.locals m∧∀ x av,env'.lookup x=some av→F.env.kindOf x=some .local→∃ v,m x=some v∧Has prog w (Vw F sl ρ s'.heap) ρ av v)
  (cell:(∀ a o,Vw F sl ρ s.heap a o→Vw F sl ρ s'.heap a o)→∀ x av,env'.lookup x=some av→F.env.kindOf x=some .cell∨F.env.kindOf x=some .free→∃ c v,F.env.cells.lookup x=some c∧s'.heap.IsCell c (some v)∧Has prog w (Vw F sl ρ s'.heap) ρ av v)
  (kind:∀ x av,env'.lookup x=some av→F.env.kindOf x=some .local∨F.env.kindOf x=some .cell∨F.env.kindOf x=some .free)
  (cells:∀ x c,(x,c)∈F.env.cells→∃ ov,s'.heap.IsCell c ov):Inv prog w F env' sl ρ s'∧Evo F sl ρ s sl ρ s':=by
 have hm:Mut F sl ρ b₀:=hb.elim .inl fun h=>.inr (.inl h)
 have hv:∀ a o,Vw F sl ρ s.heap a o→Vw F sl ρ s'.heap a o:=fun a o h=>⟨keep a o (fun e=>by subst e; exact h.2.1 (.inr hm)) h.1,h.2⟩
 refine ⟨⟨?_,I.sm,?_,ns hv,cell hv,kind,fun x c e=>⟨cells x c e,(I.cells x c e).2⟩,I.len,?_,I.apart,I.ownNe,I.locX,fun a h=>let ⟨o,e,q⟩:=I.frs a h; ⟨o,keep a o (fun z=>by subst z; exact hb.elim (fun z=>I.locX.1 (z ▸ F.frX _ h)) fun ⟨x,z⟩=>I.locX.2 x _ z (F.frX _ h)) e,q⟩⟩,⟨fun a o e h=>.of (keep a o (fun q=>by subst q; exact h hm) e),hg,hd,ho,fun _ _ e=>e,fun a h=>.inl h,fun a o e=>by
  by_cases q:a=b₀
  ·subst q; exact live
  ·exact ⟨o,keep a o q e⟩⟩⟩
 ·intro a o e
  refine keep a o (fun q=>?_) (I.base a o e)
  subst q
  rw [(I.low a (.inr hm)).1] at e; exact nomatch e
 ·intro a h
  refine ⟨(I.low a h).1,?_⟩
  by_cases e:a=b₀
  ·subst e; exact live
  ·obtain ⟨o,e'⟩:=(I.low a h).2; exact ⟨o,keep a o e e'⟩
 ·intro n a σ e1 e2
  refine (I.slots n a σ e1 e2).calm' hv fun c hc o ho=>keep a o (fun q=>?_) ho
  subst hc q
  obtain ⟨h1,h2,_⟩:=I.ownNe a ⟨n,c,e2,e1⟩
  rcases hb with h | ⟨x,h⟩
  ·exact h1 h
  ·exact h2 x h
theorem Inv.storeLocal (I:Inv prog w F env sl ρ s) {x:Str} {v:Value} {av:AV} (hk:F.env.kindOf x=some .local) (hv:Has prog w (Vw F sl ρ s.heap) ρ av v) {m:Str→Option Value} (hm:∀ x av,env.lookup x=some av→F.env.kindOf x=some .local→∃ v,m x=some v∧Has prog w (Vw F sl ρ s.heap) ρ av v)
  {h':Heap} {tk:Nat} (hn:h'.Ns F.env.locals (fun y=>if y=x then some v else m y)) (hs:Heap.SameBut F.env.locals s.heap h') :
  Inv prog w F (putEnv x av env) sl ρ { s with heap:=h',toks:=tk }∧Evo F sl ρ s sl ρ { s with heap:=h',toks:=tk }:=by
 have kp:=keep_sameBut hs
 refine I.rebind (s':={ s with heap:=h',toks:=tk }) (.inl rfl) kp (let ⟨o,_,_,e,_⟩:=hn; ⟨o,e⟩) rfl rfl rfl ?_ ?_ ?_ ?_
 ·intro hV
  refine ⟨_,hn,fun y ay e k=>?_⟩
  rw [lookup_put] at e
  by_cases q:y=x
  ·subst q
   rw [if_pos rfl] at e
   injection e with e; subst e
   exact ⟨v,by simp,Has.mono prog w hV (fun _ _ e=>e) _ _ hv⟩
  ·rw [if_neg q] at e
   obtain ⟨u,e1,e2⟩:=hm y ay e k
   exact ⟨u,by simp [q,e1],Has.mono prog w hV (fun _ _ e=>e) _ _ e2⟩
 ·intro hV y ay e k
  have q:y≠x:=fun q=>by subst q; rw [hk] at k; exact k.elim (fun k=>nomatch k) fun k=>nomatch k
  rw [lookup_put,if_neg q] at e
  obtain ⟨c,u,e1,⟨o,e2,e4⟩,e3⟩:=I.cell y ay e k
  exact ⟨c,u,e1,⟨o,kp c o (I.cells y c (mem_of_lookup e1)).2 e2,e4⟩,Has.mono prog w hV (fun _ _ e=>e) _ _ e3⟩
 ·intro y ay e
  rw [lookup_put] at e
  by_cases q:y=x
  ·subst q; exact .inl hk
  ·rw [if_neg q] at e; exact I.kind y ay e
 ·intro y c e
  obtain ⟨⟨ov,o,h1,h2⟩,h3⟩:=I.cells y c e
  exact ⟨ov,o,kp c o h3 h1,h2⟩
theorem Inv.storeCell (I:Inv prog w F env sl ρ s) (hap:∀ x y c,F.env.cells.lookup x=some c→F.env.cells.lookup y=some c→x=y) {x:Str} {v:Value} {av:AV} {c:Addr} (hk:F.env.kindOf x=some .cell) (hc:F.env.cells.lookup x=some c) (hv:Has prog w (Vw F sl ρ s.heap) ρ av v)
  {h':Heap} (hn:h'.IsCell c (some v)) (hs:Heap.SameBut c s.heap h') :
  Inv prog w F (putEnv x av env) sl ρ { s with heap:=h' }∧Evo F sl ρ s sl ρ { s with heap:=h' }:=by
 have kp:=keep_sameBut hs
 have hcm:=mem_of_lookup hc
 refine I.rebind (s':={ s with heap:=h' }) (.inr ⟨x,hcm⟩) kp (let ⟨o,e,_⟩:=hn; ⟨o,e⟩) rfl rfl rfl ?_ ?_ ?_ ?_
 ·intro hV
  obtain ⟨m,h1,h2⟩:=I.ns
  refine ⟨m,h1.at fun o e=>kp _ o (Ne.symm (I.cells x c hcm).2) e,fun y ay e k=>?_⟩
  have q:y≠x:=fun q=>by subst q; rw [hk] at k; exact nomatch k
  rw [lookup_put,if_neg q] at e
  obtain ⟨u,e1,e2⟩:=h2 y ay e k
  exact ⟨u,e1,Has.mono prog w hV (fun _ _ e=>e) _ _ e2⟩
 ·intro hV y ay e k
  rw [lookup_put] at e
  by_cases q:y=x
  ·subst q
   rw [if_pos rfl] at e
   injection e with e; subst e
   exact ⟨c,v,hc,hn,Has.mono prog w hV (fun _ _ e=>e) _ _ hv⟩
  ·rw [if_neg q] at e
   obtain ⟨c',u,e1,⟨o,e2,e4⟩,e3⟩:=I.cell y ay e k
   exact ⟨c',u,e1,⟨o,kp c' o (fun z=>by subst z; exact q (hap y x _ e1 hc)) e2,e4⟩,Has.mono prog w hV (fun _ _ e=>e) _ _ e3⟩
 ·intro y ay e
  rw [lookup_put] at e
  by_cases q:y=x
  ·subst q; exact .inr (.inl hk)
  ·rw [if_neg q] at e; exact I.kind y ay e
 ·intro y c' e
  by_cases q:c'=c
  ·subst q; exact ⟨some v,hn⟩
  ·obtain ⟨⟨ov,o,h1,h2⟩,h3⟩:=I.cells y c' e
   exact ⟨ov,o,kp c' o q h1,h2⟩
structure StOK (F:Frm):Prop where
 kind:F.env.scope.kind=.function
 apart:∀ x y c,F.env.cells.lookup x=some c→F.env.cells.lookup y=some c→x=y
 cells:∀ x,F.env.kindOf x=some .cell∨F.env.kindOf x=some .free→∃ c,F.env.cells.lookup x=some c
theorem store_name (hS:StOK F) (I:Inv prog w F env sl ρ s) {x:Str} {v:Value} {av:AV} (hk:canStore F.env.scope x=true) (hv:Has prog w (Vw F sl ρ s.heap) ρ av v) {Q:Unit→Shared→Prop} {E:Value→Shared→Prop}
  (hQ:∀ s',Inv prog w F (putEnv x av env) sl ρ s'→Evo F sl ρ s sl ρ s'→Q () s'):wpAny (model prog w) A (storeName F.env x v) Q E s:=by
 unfold canStore at hk
 split at hk
 ·rename_i e
  obtain ⟨m,h1,h2⟩:=I.ns
  refine wpAny_storeName_local e h1 (fun h' hn hs=>?_) (by rw [hS.kind]; rfl)
  obtain ⟨i1,i2⟩:=I.storeLocal (tk:=s.toks+1) e hv h2 hn hs
  exact hQ _ i1 i2
 ·rename_i e
  obtain ⟨c,hc⟩:=hS.cells x (.inl e)
  obtain ⟨⟨ov,h1⟩,_⟩:=I.cells x c (mem_of_lookup hc)
  refine wpAny_storeName_cell hS.kind e hc h1 fun h' hn hs=>?_
  obtain ⟨i1,i2⟩:=I.storeCell hS.apart e hc hv hn hs
  exact hQ _ i1 i2
 ·exact nomatch hk
theorem assign_name (hS:StOK F) (I:Inv prog w F env sl ρ s) {x:Str} {pos:Pos} {v:Value} {av:AV} (hk:canStore F.env.scope x=true) (hv:Has prog w (Vw F sl ρ s.heap) ρ av v) {Q:Unit→Shared→Prop} {E:Value→Shared→Prop}
  (hQ:∀ s',Inv prog w F (putEnv x av env) sl ρ s'→Evo F sl ρ s sl ρ s'→Q () s'):wpAny (model prog w) A (assign (.Name x pos) F.env v) Q E s:=
 wpAny_assign_Name (store_name hS I hk hv hQ)
end Mine
end
section
open PySem.SeqAt
namespace Mine
variable {prog:Program} {w:World} {EO:Value→Shared→Prop} {F:Frm} {env:AEnv} {sl:SL} {ρ:List Addr} {s:Shared} {A:Around} {d:Nat}
theorem noX_holds {α:Type} {P:α→Prop} {X:Prop}:∀ {x:R α},(noX x).Holds P X→x.Holds P False
 | .ret _,h=>h
 | .ite _ _ _,⟨h1,h2⟩=>⟨fun e=>noX_holds (h1 e),fun e=>noX_holds (h2 e)⟩
 | .need _ _,⟨h1,h2⟩=>⟨h1,noX_holds h2⟩
 | .exc,h=>h.elim
 | .fail,h=>h.elim
theorem Inv.weaken {env':AEnv} (I:Inv prog w F env sl ρ s) (h:∀ x av,env'.lookup x=some av→env.lookup x=some av):Inv prog w F env' sl ρ s:=
 ⟨I.base,I.sm,I.low,let ⟨m,h1,h2⟩:=I.ns; ⟨m,h1,fun x av e k=>h2 x av (h x av e) k⟩,fun x av e k=>I.cell x av (h x av e) k,fun x av e=>I.kind x av (h x av e),I.cells,I.len,I.slots,I.apart,I.ownNe,I.locX,I.frs⟩
theorem Inv.turn {z:Addr} (I:Inv prog w F env sl ρ s) (hz:F.X z) (hf:¬ F.fr z) {s':Shared} (keep:∀ a o,a≠z→s.heap.get? a=some o→s'.heap.get? a=some o) (live:∃ o,s'.heap.get? z=some o):Inv prog w F env sl ρ s':=by
 have hv:∀ b o,Vw F sl ρ s.heap b o→Vw F sl ρ s'.heap b o:=fun b o h=>⟨keep b o (fun e=>h.2.1 (.inl (e ▸ hz))) h.1,h.2⟩
 have ned:∀ a,Mut F sl ρ a→a≠z:=fun a h e=>by
  subst e
  rcases h with h | ⟨x,h⟩ | h
  ·exact I.locX.1 (h ▸ hz)
  ·exact I.locX.2 x _ h hz
  ·exact (I.ownNe _ h).2.2 hz
 refine ⟨fun a o e=>keep a o (fun q=>by subst q; rw [(I.low a (.inl hz)).1] at e; exact nomatch e) (I.base a o e),I.sm,fun a h=>⟨(I.low a h).1,?_⟩,?_,?_,I.kind,?_,I.len,?_,I.apart,I.ownNe,I.locX,fun a h=>let ⟨o,e,q⟩:=I.frs a h; ⟨o,keep a o (fun z=>hf (z ▸ h)) e,q⟩⟩
 ·by_cases q:a=z
  ·subst q; exact live
  ·obtain ⟨o,e⟩:=(I.low a h).2; exact ⟨o,keep a o q e⟩
 ·obtain ⟨m,h1,h2⟩:=I.ns
  exact ⟨m,h1.at fun o e=>keep _ o (ned _ (.inl rfl)) e,fun x av e k=>let ⟨v,e1,e2⟩:=h2 x av e k; ⟨v,e1,Has.mono prog w hv (fun _ _ e=>e) av v e2⟩⟩
 ·intro x av e k
  obtain ⟨q,v,e1,⟨o,e2,e3⟩,e4⟩:=I.cell x av e k
  exact ⟨q,v,e1,⟨o,keep q o (ned q (.inr (.inl ⟨x,mem_of_lookup e1⟩))) e2,e3⟩,Has.mono prog w hv (fun _ _ e=>e) av v e4⟩
 ·intro x c e
  obtain ⟨⟨ov,o,h1,h2⟩,h3⟩:=I.cells x c e
  exact ⟨⟨ov,o,keep c o (ned c (.inr (.inl ⟨x,e⟩))) h1,h2⟩,h3⟩
 ·intro n a σ e1 e2
  refine (I.slots n a σ e1 e2).calm' hv fun c hc o ho=>keep a o (ned a ?_) ho
  subst hc
  exact .inr (.inr ⟨n,c,e2,e1⟩)
theorem has_turn {z:Addr} (hz:F.X z) {h h':Heap} (keep:∀ a o,a≠z→h.get? a=some o→h'.get? a=some o) (b:Addr) (o:Obj) (v:Vw F sl ρ h b o):Vw F sl ρ h' b o:=⟨keep b o (fun e=>v.2.1 (.inl (e ▸ hz))) v.1,v.2⟩
theorem Evo.turn {z:Addr} {sl':SL} {ρ':List Addr} {s₁ s':Shared} (x:Evo F sl ρ s sl' ρ' s₁) (hz:s.heap.get? z=none) (keep:∀ a o,a≠z→s₁.heap.get? a=some o→s'.heap.get? a=some o) (hg:s'.gens=s₁.gens) (hd:s'.drawn=s₁.drawn) (ho:s'.os=s₁.os):Evo F sl ρ s sl' ρ' s':=
 ⟨fun a o e hm=>(x.keep a o e hm).trans fun o' e'=>.of (keep a o' (fun q=>by subst q; rw [hz] at e; exact nomatch e) e'),hg.trans x.gens,hd.trans x.drawn,ho.trans x.os,x.ext,x.mu,fun a o e=>let ⟨o',e'⟩:=x.live a o e; ⟨o',keep a o' (fun q=>by subst q; rw [hz] at e; exact nomatch e) e'⟩⟩
def Frm.comp (F:Frm) (sc:Scope) (cl:List (Str×Addr)) (C J D:Addr):Frm:=
 { env:=compEnvC sc cl C F.env,X:=fun a=>F.X a∨a=F.env.locals∨((∃ x,(x,a)∈F.env.cells)∧∀ y,(y,a) ∉ cl)∨a=J∨a=D,base:=F.base,fr:=Around1 F,frX:=fun a h=>h.elim (fun h=>.inl (F.frX a h)) fun h=>.inr (.inl h) }
structure CompOK (F:Frm) (sc:Scope) (cl:List (Str×Addr)) (s₀:Shared) (C J D:Addr):Prop where
 sub:∀ x c,cl.lookup x=some c→F.env.cells.lookup x=some c
 mem:∀ x c,(x,c)∈cl→cl.lookup x=some c
 newC:s₀.heap.get? C=none
 newJ:s₀.heap.get? J=none
 newD:s₀.heap.get? D=none
 neCJ:C≠J
 neCD:C≠D
 neJD:J≠D
 frJ:¬ Around1 F J
 frD:¬ Around1 F D
theorem comp_bad {sc:Scope} {cl:List (Str×Addr)} {C J D:Addr} {s₀:Shared} (K:CompOK F sc cl s₀ C J D) {a:Addr}:Bad (F.comp sc cl C J D) sl ρ a↔Bad F sl ρ a∨a=C∨a=J∨a=D:=by
 have sub:∀ x,(x,a)∈cl→(x,a)∈F.env.cells:=fun x h=>mem_of_lookup (K.sub x a (K.mem x a h))
 constructor
 ·rintro ((h | h | ⟨h,_⟩ | h | h) | h | ⟨x,h⟩ | h)
  ·exact .inl (.inl h)
  ·exact .inl (.inr (.inl h))
  ·exact .inl (.inr (.inr (.inl h)))
  ·exact .inr (.inr (.inl h))
  ·exact .inr (.inr (.inr h))
  ·exact .inr (.inl h)
  ·exact .inl (.inr (.inr (.inl ⟨x,sub x h⟩)))
  ·exact .inl (.inr (.inr (.inr h)))
 ·rintro ((h | h | ⟨x,h⟩ | h) | h | h | h)
  ·exact .inl (.inl h)
  ·exact .inl (.inr (.inl h))
  ·by_cases q:∃ y,(y,a)∈cl
   ·exact .inr (.inr (.inl q))
   ·exact .inl (.inr (.inr (.inl ⟨⟨x,h⟩,fun y hy=>q ⟨y,hy⟩⟩)))
  ·exact .inr (.inr (.inr h))
  ·exact .inr (.inl h)
  ·exact .inl (.inr (.inr (.inr (.inl h))))
  ·exact .inl (.inr (.inr (.inr (.inr h))))
theorem comp_mut {sc:Scope} {cl:List (Str×Addr)} {C J D:Addr} {s₀:Shared} (K:CompOK F sc cl s₀ C J D) {a:Addr} (h:Mut (F.comp sc cl C J D) sl ρ a):Mut F sl ρ a∨a=C:=by
 rcases h with h | ⟨x,h⟩ | h
 ·exact .inr h
 ·exact .inl (.inr (.inl ⟨x,mem_of_lookup (K.sub x a (K.mem x a h))⟩))
 ·exact .inl (.inr (.inr h))
theorem Inv.comp {sc:Scope} {cl:List (Str×Addr)} {C J D:Addr} {cenv:AEnv} {s₁:Shared} (I:Inv prog w F env sl ρ s) (K:CompOK F sc cl s C J D) (g:Grow s s₁) {m₀:Str→Option Value} (hC:s₁.heap.Ns C m₀) (hJ:∃ o,s₁.heap.get? J=some o) (hD:∃ o,s₁.heap.get? D=some o)
  (hcap:∀ x av,cenv.lookup x=some av→env.lookup x=some av∧((F.comp sc cl C J D).env.kindOf x=some .cell∨(F.comp sc cl C J D).env.kindOf x=some .free)∧∃ c,cl.lookup x=some c∧(F.env.kindOf x=some .cell∨F.env.kindOf x=some .free)) :
  Inv prog w (F.comp sc cl C J D) cenv sl ρ s₁:=by
 have liveC:∃ o,s₁.heap.get? C=some o:=let ⟨o,_,_,e,_⟩:=hC; ⟨o,e⟩
 have bn:∀ a,s.heap.get? a=none→F.base.get? a=none:=fun a h=>by
  cases e:F.base.get? a with
  | none=>rfl
  | some o=>rw [I.base a o e] at h; exact nomatch h
 have old:∀ a,Bad F sl ρ a→∃ o,s.heap.get? a=some o:=fun a h=>(I.low a h).2
 have ne:∀ {a z:Addr},s.heap.get? z=none→Bad F sl ρ a→a≠z:=fun hz h e=>by
  obtain ⟨o,ho⟩:=old _ h
  rw [e,hz] at ho; exact nomatch ho
 have hv:∀ b o,Vw F sl ρ s.heap b o→Vw (F.comp sc cl C J D) sl ρ s₁.heap b o:=fun b o h=>by
  refine ⟨g.keep b o h.1,fun q=>?_,h.2.2⟩
  have h1:=h.1
  rcases (comp_bad K).mp q with q | q | q | q
  ·exact h.2.1 q
  ·rw [q,K.newC] at h1; exact nomatch h1
  ·rw [q,K.newJ] at h1; exact nomatch h1
  ·rw [q,K.newD] at h1; exact nomatch h1
 refine ⟨fun a o e=>g.keep a o (I.base a o e),I.sm,fun a h=>?_,⟨m₀,hC,fun x av e k=>?_⟩,fun x av e k=>?_,fun x av e=>?_,fun x c e=>?_,I.len,fun n a σ e1 e2=>(I.slots n a σ e1 e2).calm hv (fun _ _ e=>e) (g.keep a),I.apart,fun a h=>?_,⟨?_,fun x c e=>?_⟩,fun a h=>let ⟨o,e,q⟩:=I.around1 a h; ⟨o,g.keep a o e,q⟩⟩
 ·rcases (comp_bad K).mp h with h | h | h | h
  ·exact ⟨(I.low a h).1,let ⟨o,e⟩:=(I.low a h).2; ⟨o,g.keep a o e⟩⟩
  ·subst h; exact ⟨bn _ K.newC,liveC⟩
  ·subst h; exact ⟨bn _ K.newJ,hJ⟩
  ·subst h; exact ⟨bn _ K.newD,hD⟩
 ·obtain ⟨_,k2,_⟩:=hcap x av e
  rw [k] at k2; exact k2.elim (fun q=>nomatch q) fun q=>nomatch q
 ·obtain ⟨h1,_,c,h2,h3⟩:=hcap x av e
  obtain ⟨c',v,e1,e2,e3⟩:=I.cell x av h1 h3
  rw [K.sub x c h2] at e1
  injection e1 with e1
  subst e1
  exact ⟨c,v,h2,e2.keeps g.keep,Has.mono prog w hv (fun _ _ e=>e) _ _ e3⟩
 ·exact .inr (hcap x av e).2.1
 ·have hm:=mem_of_lookup (K.sub x c (K.mem x c e))
  obtain ⟨⟨ov,h1⟩,h2⟩:=I.cells x c hm
  exact ⟨⟨ov,h1.keeps g.keep⟩,ne K.newC (.inr (.inr (.inl ⟨x,hm⟩)))⟩
 ·obtain ⟨h1,h2,h3⟩:=I.ownNe a h
  have hb:Bad F sl ρ a:=.inr (.inr (.inr h))
  refine ⟨ne K.newC hb,fun x q=>h2 x (mem_of_lookup (K.sub x a (K.mem x a q))),?_⟩
  rintro (q | q | ⟨⟨x,q⟩,_⟩ | q | q)
  ·exact h3 q
  ·exact h1 q
  ·exact h2 x q
  ·exact ne K.newJ hb q
  ·exact ne K.newD hb q
 ·rintro (q | q | ⟨⟨x,q⟩,_⟩ | q | q)
  ·exact ne K.newC (.inl q) rfl
  ·exact ne K.newC (.inr (.inl rfl)) q.symm
  ·exact ne K.newC (.inr (.inr (.inl ⟨x,q⟩))) rfl
  ·exact K.neCJ q
  ·exact K.neCD q
 ·have hm:=mem_of_lookup (K.sub x c (K.mem x c e))
  have hb:Bad F sl ρ c:=.inr (.inr (.inl ⟨x,hm⟩))
  rintro (q | q | ⟨_,q⟩ | q | q)
  ·exact I.locX.2 x c hm q
  ·exact (I.cells x c hm).2 q
  ·exact q x e
  ·exact ne K.newJ hb q
  ·exact ne K.newD hb q
end Mine
end
section
open PySem.SeqAt
namespace Mine
variable {prog:Program} {w:World} {EO:Value→Shared→Prop} {F:Frm} {env:AEnv} {sl:SL} {ρ:List Addr} {s:Shared} {A:Around} {d:Nat}
theorem Inv.uncomp {sc:Scope} {cl:List (Str×Addr)} {C J D:Addr} {cenv:AEnv} {s':Shared} {sl':SL} {ρ':List Addr} (I:Inv prog w F env sl ρ s) (K:CompOK F sc cl s C J D) (Ic:Inv prog w (F.comp sc cl C J D) cenv sl' ρ' s') (ev:Evo (F.comp sc cl C J D) sl ρ s sl' ρ' s')
  (hap:∀ x y c,F.env.cells.lookup x=some c→F.env.cells.lookup y=some c→x=y)
  (hcap:∀ x c av,env.lookup x=some av→cl.lookup x=some c→cenv.lookup x=some av∧((F.comp sc cl C J D).env.kindOf x=some .cell∨(F.comp sc cl C J D).env.kindOf x=some .free))
  {s₉:Shared} (keep:∀ a o,a≠C→a≠J→s'.heap.get? a=some o→s₉.heap.get? a=some o) (hg:s₉.gens=s'.gens) (hd:s₉.drawn=s'.drawn) (ho:s₉.os=s'.os) :
  Inv prog w F env sl' ρ' s₉∧Evo F sl ρ s sl' ρ' s₉∧∀ b o,Vw (F.comp sc cl C J D) sl' ρ' s'.heap b o→Vw F sl' ρ' s₉.heap b o:=by
 have ne:∀ {a z:Addr},s.heap.get? z=none→(∃ o,s.heap.get? a=some o)→a≠z:=fun hz h e=>by
  obtain ⟨o,ho⟩:=h
  rw [e,hz] at ho; exact nomatch ho
 -- what stood at the start and is not turned
 have kp:∀ a o,s.heap.get? a=some o→¬ Mut (F.comp sc cl C J D) sl ρ a→Kept (Around1 F) s₉.heap a o:=fun a o e hm=>Kept.trans (fr:=Around1 F) (ev.keep a o e hm) fun o' e'=>.of (keep a o' (ne K.newC ⟨o,e⟩) (ne K.newJ ⟨o,e⟩) e')
 have ownOld:∀ a,OwnA sl' ρ' a→Mut F sl ρ a∨s.heap.get? a=none:=fun a h=>by
  rcases ev.mu a (.inr (.inr h)) with q | q
  ·exact (comp_mut K q).elim .inl fun e=>.inr (by rw [e]; exact K.newC)
  ·exact .inr q
 have badOld:∀ a o,s.heap.get? a=some o→Bad F sl' ρ' a→Bad F sl ρ a:=fun a o e h=>by
  rcases h with h | h | h | h
  ·exact .inl h
  ·exact .inr (.inl h)
  ·exact .inr (.inr (.inl h))
  ·rcases ownOld a h with q | q
   ·exact .inr q
   ·rw [e] at q; exact nomatch q
 have notMut:∀ a o,s.heap.get? a=some o→¬ Mut F sl ρ a→¬ Mut (F.comp sc cl C J D) sl ρ a:=fun a o e h q=>(comp_mut K q).elim h fun q=>ne K.newC ⟨o,e⟩ q
 have hv:∀ b o,Vw F sl ρ s.heap b o→Vw F sl' ρ' s₉.heap b o:=fun b o h=>
  ⟨(kp b o h.1 (notMut b o h.1 fun q=>h.2.1 (.inr q))).exact (fun q=>h.2.1 (Around1.bad b q)),fun q=>h.2.1 (badOld b o h.1 q),h.2.2⟩
 have hvc:∀ b o,Vw (F.comp sc cl C J D) sl' ρ' s'.heap b o→Vw F sl' ρ' s₉.heap b o:=fun b o h=>
  ⟨keep b o (fun e=>h.2.1 ((comp_bad K).mpr (.inr (.inl e)))) (fun e=>h.2.1 ((comp_bad K).mpr (.inr (.inr (.inl e))))) h.1,fun q=>h.2.1 ((comp_bad K).mpr (.inl q)),h.2.2⟩
 have neC:∀ a,Bad F sl' ρ' a→a≠C:=fun a h e=>by
  subst e
  rcases h with h | h | ⟨x,h⟩ | h
  ·exact ne K.newC (I.low _ (.inl h)).2 rfl
  ·exact ne K.newC (I.low _ (.inr (.inl h))).2 rfl
  ·exact ne K.newC (I.low _ (.inr (.inr (.inl ⟨x,h⟩)))).2 rfl
  ·exact (Ic.ownNe _ h).1 rfl
 have neJ:∀ a,Bad F sl' ρ' a→a≠J:=fun a h e=>by
  subst e
  rcases h with h | h | ⟨x,h⟩ | h
  ·exact ne K.newJ (I.low _ (.inl h)).2 rfl
  ·exact ne K.newJ (I.low _ (.inr (.inl h))).2 rfl
  ·exact ne K.newJ (I.low _ (.inr (.inr (.inl ⟨x,h⟩)))).2 rfl
  ·exact (Ic.ownNe _ h).2.2 (.inr (.inr (.inr (.inl rfl))))
 have notMutLoc:∀ a,(∃ o,s.heap.get? a=some o)→(∀ x,(x,a) ∉ cl)→¬ OwnA sl ρ a→¬ Mut (F.comp sc cl C J D) sl ρ a:=fun a hl hc ho q=>by
  rcases q with q | ⟨x,q⟩ | q
  ·exact ne K.newC hl q
  ·exact hc x q
  ·exact ho q
 have cellIn:∀ x a,(x,a)∈cl→(x,a)∈F.env.cells:=fun x a h=>mem_of_lookup (K.sub x a (K.mem x a h))
 have cellKeep:∀ a,(∃ x,(x,a)∈F.env.cells)→(∀ y,(y,a) ∉ cl)→∀ o,s.heap.get? a=some o→s₉.heap.get? a=some o:=fun a ⟨x,hx⟩ hc o e=>
  (kp a o e (notMutLoc a ⟨o,e⟩ hc fun q=>(I.ownNe a q).2.1 x hx)).exact (I.cell_around1 hx)
 refine ⟨⟨fun a o e=>(kp a o (I.base a o e) ?_).exact (I.base_around1 e),I.sm,fun a h=>?_,?_,fun x av e k=>?_,I.kind,fun x c e=>⟨?_,(I.cells x c e).2⟩,Ic.len,fun n a σ e1 e2=>?_,Ic.apart,fun a h=>?_,I.locX,fun a h=>let ⟨o,e,q⟩:=I.frs a h; let ⟨o',e',d'⟩:=(kp a o e (notMut a o e (I.x_not_mut (F.frX a h)))).some; ⟨o',e',fun vs=>d' ▸ q vs⟩⟩,⟨fun a o e hm=>(kp a o e (notMut a o e hm)).sub fun q=>q.resolve_right fun q=>hm (.inl q),hg.trans ev.gens,hd.trans ev.drawn,ho.trans ev.os,ev.ext,fun a h=>?_,fun a o e=>let ⟨o',e'⟩:=ev.live a o e; ⟨o',keep a o' (ne K.newC ⟨o,e⟩) (ne K.newJ ⟨o,e⟩) e'⟩⟩,hvc⟩
 ·intro q
  rcases comp_mut K q with q | q
  ·rw [(I.low a (.inr q)).1] at e; exact nomatch e
  ·have:=I.base a o e
   rw [q,K.newC] at this; exact nomatch this
 ·have hb:=(comp_bad K (sl:=sl') (ρ:=ρ')).mpr (.inl h)
  refine ⟨(Ic.low a hb).1,?_⟩
  obtain ⟨o,e⟩:=(Ic.low a hb).2
  exact ⟨o,keep a o (neC a h) (neJ a h) e⟩
 ·obtain ⟨m,h1,h2⟩:=I.ns
  have hl:∃ o,s.heap.get? F.env.locals=some o:=(I.low _ (.inr (.inl rfl))).2
  refine ⟨m,ns_kept h1 fun o e=>kp _ o e (notMutLoc _ hl (fun x q=>(I.cells x _ (cellIn x _ q)).2 rfl) fun q=>(I.ownNe _ q).1 rfl),fun x av e k=>?_⟩
  obtain ⟨v,e1,e2⟩:=h2 x av e k
  exact ⟨v,e1,Has.mono prog w hv ev.ext av v e2⟩
 ·obtain ⟨c,v,e1,⟨o,e2,e3⟩,e4⟩:=I.cell x av e k
  by_cases q:∃ y,(y,c)∈cl
  ·obtain ⟨y,hy⟩:=q
   have hy':=K.mem y c hy
   have:y=x:=hap y x c (K.sub y c hy') e1
   subst this
   obtain ⟨k1,k2⟩:=hcap y c av e hy'
   obtain ⟨c',v',f1,⟨o',f2,f5⟩,f3⟩:=Ic.cell y av k1 k2
   have f1:cl.lookup y=some c':=f1
   rw [hy'] at f1
   injection f1 with f1
   subst f1
   exact ⟨c,v',e1,⟨o',keep c o' (neC c (.inr (.inr (.inl ⟨y,mem_of_lookup e1⟩)))) (neJ c (.inr (.inr (.inl ⟨y,mem_of_lookup e1⟩)))) f2,f5⟩,Has.mono prog w hvc (fun _ _ e=>e) _ _ f3⟩
  ·exact ⟨c,v,e1,⟨o,cellKeep c ⟨x,mem_of_lookup e1⟩ (fun y hy=>q ⟨y,hy⟩) o e2,e3⟩,Has.mono prog w hv ev.ext _ _ e4⟩
 ·by_cases q:∃ y,(y,c)∈cl
  ·obtain ⟨y,hy⟩:=q
   obtain ⟨⟨ov,o,h1,h2⟩,h3⟩:=Ic.cells y c hy
   exact ⟨ov,o,keep c o h3 (neJ c (.inr (.inr (.inl ⟨x,e⟩)))) h1,h2⟩
  ·obtain ⟨⟨ov,o,h1,h2⟩,h3⟩:=I.cells x c e
   exact ⟨ov,o,cellKeep c ⟨x,e⟩ (fun y hy=>q ⟨y,hy⟩) o h1,h2⟩
 ·refine (Ic.slots n a σ e1 e2).calm' hvc fun c hc o ho=>keep a o (neC a ?_) (neJ a ?_) ho
  all_goals
   subst hc
   exact .inr (.inr (.inr ⟨n,c,e2,e1⟩))
 ·obtain ⟨h1,h2,h3⟩:=Ic.ownNe a h
  refine ⟨fun q=>h3 (.inr (.inl q)),fun x q=>?_,fun q=>h3 (.inl q)⟩
  by_cases z:∃ y,(y,a)∈cl
  ·obtain ⟨y,hy⟩:=z
   exact h2 y hy
  ·exact h3 (.inr (.inr (.inl ⟨⟨x,q⟩,fun y hy=>z ⟨y,hy⟩⟩)))
 ·rcases h with h | h | h
  ·exact .inl (.inl h)
  ·exact .inl (.inr (.inl h))
  ·exact ownOld a h
end Mine
end
section
open PySem.SeqAt
namespace Mine
variable {prog:Program} {w:World} {EO:Value→Shared→Prop} {F:Frm} {env:AEnv} {sl:SL} {ρ:List Addr} {s:Shared} {A:Around} {d:Nat}
theorem combO_none (o:Option SL):combO o none=o:=by cases o<;>rfl
theorem combO_assoc (a b c:Option SL):combO (combO a b) c=combO a (combO b c):=by
 cases a<;>cases b<;>cases c<;>rfl
theorem comp_loop {sc:Scope} {cl:List (Str×Addr)} {C J D:Addr} {cenv:AEnv} {s₂ s₄:Shared} {items:List AV} {fp:List Addr} {n:Nat} {P₀:Nat→Value→Prop} {St:Nat→Heap→Prop}
  (K:CompOK F sc cl s C J D) (It:IterAt prog w A F sl ρ s s₂ J items fp n P₀ St) (hS:StOK (F.comp sc cl C J D)) {x:Str} (hx:canStore (F.comp sc cl C J D).env.scope x=true) (hcx:cenv.lookup x=none)
  (hn:items.length<10000000) {T G:AV→SL→RE} {elt iter:Expr} {px:Pos} {ifs:List Expr} {pos:Pos}
  (hT:∀ av sl ρ s,Inv prog w (F.comp sc cl C J D) (putEnv x av cenv) sl ρ s→TriB prog w EO (F.comp sc cl C J D) (putEnv x av cenv) sl ρ s A (T av sl)
   (forIn ifs true fun c r=>if r=true then do let ok ← isTrue c (F.comp sc cl C J D).env (eval c (F.comp sc cl C J D).env); pure (ForInStep.yield ok) else pure (ForInStep.yield r)))
  (hG:∀ av sl ρ s,Inv prog w (F.comp sc cl C J D) (putEnv x av cenv) sl ρ s→Tri prog w EO (F.comp sc cl C J D) (putEnv x av cenv) sl ρ s A (G av sl) (eval elt (F.comp sc cl C J D).env))
  {P:Option SL×List AV→Prop} {RR:Result→Shared→Prop}
  (hR:∀ s' s₉ o acc outs mm ρ',Inv prog w (F.comp sc cl C J D) cenv (o.getD sl) ρ' s'→Evo (F.comp sc cl C J D) sl ρ s (o.getD sl) ρ' s'→s'.heap.get? D=some (lstO outs mm)→HasL prog w (Vw (F.comp sc cl C J D) (o.getD sl) ρ' s'.heap) ρ' acc outs→P (o,acc) →
   (∀ a ob,a≠J→s'.heap.get? a=some ob→s₉.heap.get? a=some ob)→s₉.gens=s'.gens→s₉.drawn=s'.drawn→s₉.os=s'.os→RR (.ok .next) s₉)
  (Ic:Inv prog w (F.comp sc cl C J D) cenv sl ρ s₄) (ev:Evo (F.comp sc cl C J D) sl ρ s sl ρ s₄) (hst:St 0 s₄.heap) (hD:s₄.heap.get? D=some (lstO [] 0)) (h:(compItems G T items sl).Holds P False) :
  codeAny (model prog w) A (.compLoop (.ListComp elt [⟨.Name x px,iter,ifs,0⟩] sc pos) 0 (.ref J) (.ref D) (F.comp sc cl C J D).env) RR s₄:=by
 have XJ:(F.comp sc cl C J D).X J:=.inr (.inr (.inr (.inl rfl)))
 have XD:(F.comp sc cl C J D).X D:=.inr (.inr (.inr (.inr rfl)))
 refine codeAny_compLoop_tests (fun k s'=>∃ i o outs mm acc ρ',i+k=n∧Inv prog w (F.comp sc cl C J D) cenv (o.getD sl) ρ' s'∧Evo (F.comp sc cl C J D) sl ρ s (o.getD sl) ρ' s'∧St i s'.heap∧s'.heap.get? D=some (lstO outs mm) ∧
  HasL prog w (Vw (F.comp sc cl C J D) (o.getD sl) ρ' s'.heap) ρ' acc outs∧acc.length≤i∧(compItems G T (items.drop i) (o.getD sl)).Holds (fun q=>P (combO o q.1,acc++q.2)) False) ?_ n ⟨0,none,[],0,[],ρ,Nat.zero_add n,Ic,ev,hst,hD,rfl,Nat.le_refl _,h⟩
 rintro k s₅ ⟨i,o,outs,mm,acc,ρ',hik,I₅,ev₅,st₅,hD₅,hacc,hle,hh⟩
 have fpFr:∀ b∈fp,¬ Around1 F b:=fun b hb q=>by
  rcases It.fp b hb with e | ⟨ob,e⟩
  ·exact K.frJ (e ▸ q)
  ·exact e.2.1 (Around1.bad b q)
 have liveJ:∀ {h':Heap} {j:Nat},St j h'→True:=fun _=>trivial
 have fpMut:∀ {sl':SL} {ρ'':List Addr} {s':Shared},Inv prog w (F.comp sc cl C J D) cenv sl' ρ'' s'→Evo (F.comp sc cl C J D) sl ρ s sl' ρ'' s'→∀ b∈fp,¬ Mut (F.comp sc cl C J D) sl' ρ'' b:=fun I' ev' b hb q=>by
  rcases It.fp b hb with e | ⟨ob,e⟩
  ·subst e
   rcases q with q | ⟨y,q⟩ | q
   ·exact K.neCJ q.symm
   ·exact I'.locX.2 y _ q XJ
   ·exact (I'.ownNe _ q).2.2 XJ
  ·rcases ev'.mu b q with q | q
   ·rcases comp_mut K q with q | q
    ·exact e.2.1 (.inr q)
    ·have:=e.1; rw [q,K.newC] at this; exact nomatch this
   ·rw [e.1] at q; exact nomatch q
 cases k with
 | zero=>
  have hi:i=n:=by omega
  subst hi
  refine It.walks.done s₅ _ _ st₅ fun h' tk hk=>?_
  have hk':∀ a ob,a≠J→s₅.heap.get? a=some ob→h'.get? a=some ob:=fun a ob hne e=>hk a ob (by simpa using hne) e
  rw [List.drop_of_length_le (by rw [It.len]; exact Nat.le_refl _)] at hh
  have hh:P (combO o none,acc++[]):=hh
  rw [combO_none,List.append_nil] at hh
  exact hR s₅ _ o acc outs mm ρ' I₅ ev₅ hD₅ hacc hh hk' rfl rfl rfl
 | succ k=>
  have hi:i<n:=by omega
  refine It.walks.item i s₅ _ _ hi st₅ fun v h' tk hv st₆ hk=>?_
  have hk':∀ a ob,a≠J→s₅.heap.get? a=some ob→h'.get? a=some ob:=fun a ob hne e=>hk a ob (by simpa using hne) e
  have hj:∃ ob,h'.get? J=some ob:=let ⟨ob,e,_⟩:=It.stLive _ _ st₆; ⟨ob,e⟩
  let s₆:Shared:={ s₅ with heap:=h',toks:=tk }
  have I₆:Inv prog w (F.comp sc cl C J D) cenv (o.getD sl) ρ' s₆:=I₅.turn XJ K.frJ hk' hj
  have ev₆:Evo (F.comp sc cl C J D) sl ρ s (o.getD sl) ρ' s₆:=ev₅.turn K.newJ hk' rfl rfl rfl
  have hD₆:s₆.heap.get? D=some (lstO outs mm):=hk' D _ (Ne.symm K.neJD) hD₅
  have hacc₆:=HasL.mono prog w (has_turn (F:=F.comp sc cl C J D) (sl:=o.getD sl) (ρ:=ρ') XJ hk') (fun _ _ e=>e) _ _ hacc
  obtain ⟨av,hav,hhas⟩:=It.has i v hi hv
  have hlt:i<items.length:=(List.getElem?_eq_some_iff.mp hav).1
  have hdrop:items.drop i=av :: items.drop (i+1):=by
   rw [List.drop_eq_getElem_cons hlt]
   congr 1
   rw [List.getElem?_eq_getElem hlt] at hav
   injection hav
  rw [hdrop] at hh
  -- the item as the comprehension sees it
  have hv₀:∀ b ob,Vw F sl ρ s.heap b ob→Vw (F.comp sc cl C J D) (o.getD sl) ρ' s₆.heap b ob:=fun b ob e=>by
   have nm:¬ Mut (F.comp sc cl C J D) sl ρ b:=fun q=>(comp_mut K q).elim (fun q=>e.2.1 (.inr q)) fun q=>by
    have:=e.1; rw [q,K.newC] at this; exact nomatch this
   have nx:¬ (F.comp sc cl C J D).X b:=fun q=>by
    rcases q with q | q | ⟨⟨y,q⟩,_⟩ | q | q
    ·exact e.2.1 (.inl q)
    ·exact e.2.1 (.inr (.inl q))
    ·exact e.2.1 (.inr (.inr (.inl ⟨y,q⟩)))
    ·have:=e.1; rw [q,K.newJ] at this; exact nomatch this
    ·have:=e.1; rw [q,K.newD] at this; exact nomatch this
   exact ⟨(ev₆.keep b ob e.1 nm).exact fun q=>nx ((F.comp sc cl C J D).frX b q),fun q=>q.elim nx fun q=>(ev₆.mu b q).elim nm fun q=>(by rw [e.1] at q; cases q),e.2.2⟩
  have hitem:Has prog w (Vw (F.comp sc cl C J D) (o.getD sl) ρ' s₆.heap) ρ' av v:=Has.mono prog w hv₀ ev₆.ext _ _ hhas
  refine assign_name hS I₆ hx hitem fun s₇ I₇ ev₇=>?_
  -- the tests
  have hh:(seqLX (T av (o.getD sl)) fun c=>match c with
   | .bool true=>seqL (G av (o.getD sl)) (o.getD sl) fun v sl=>(compItems G T (items.drop (i+1)) sl).bind fun q=>.ret (q.1,v :: q.2)
   | .bool false=>compItems G T (items.drop (i+1)) (o.getD sl)
   | _=>.fail).Holds (fun q=>P (combO o q.1,acc++q.2)) False:=hh
  have hh:=R.holds_bind hh
  refine hT av (o.getD sl) ρ' s₇ I₇ (fun p=>p.1=none∧((match p.2 with
   | .bool true=>seqL (G av (o.getD sl)) (o.getD sl) fun v sl=>(compItems G T (items.drop (i+1)) sl).bind fun q=>.ret (q.1,v :: q.2)
   | .bool false=>compItems G T (items.drop (i+1)) (o.getD sl)
   | _=>.fail:RL)).Holds (fun q=>P (combO o q.1,acc++q.2)) False) False _ _ (R.holds_mono (fun p hp=>?_) id hh) (fun ok s₈ h₈=>?_) (fun hX=>hX.elim)
  ·obtain ⟨po,pa⟩:=p
   cases po with
   | none=>
    refine ⟨?_,rfl,hp⟩
    cases pa<;>first | rfl | exact hp.elim
   | some _=>exact hp.elim
  obtain ⟨o₈,c,ρ₈,I₈,hc,ev₈,ho₈,hp₈⟩:=h₈
  have ho₈:o₈=none:=ho₈
  subst ho₈
  have I₈:Inv prog w (F.comp sc cl C J D) (putEnv x av cenv) (o.getD sl) ρ₈ s₈:=I₈
  have ev₈:Evo (F.comp sc cl C J D) (o.getD sl) ρ' s₇ (o.getD sl) ρ₈ s₈:=ev₈
  have wk:∀ y a,cenv.lookup y=some a→(putEnv x av cenv).lookup y=some a:=fun y a e=>by
   rw [lookup_put,if_neg (fun q=>by subst q; rw [hcx] at e; exact nomatch e)]; exact e
  have ev₆₈:=ev₇.trans ev₈
  have evAll₈:=ev₆.trans ev₆₈
  have stKeep:∀ {sl':SL} {ρ'':List Addr} {s':Shared} {j:Nat},Inv prog w (F.comp sc cl C J D) cenv (o.getD sl) ρ' s₆→St j s₆.heap→Evo (F.comp sc cl C J D) (o.getD sl) ρ' s₆ sl' ρ'' s'→St j s'.heap:=fun I' st ev'=>
   It.walks.frame _ _ _ st fun b hb ob e=>(ev'.keep b ob e (fpMut I' ev₆ b hb)).exact (fpFr b hb)
  have notMutD:¬ Mut (F.comp sc cl C J D) (o.getD sl) ρ' D:=fun q=>by
   rcases q with q | ⟨y,q⟩ | q
   ·exact K.neCD q.symm
   ·exact I₆.locX.2 y _ q XD
   ·exact (I₆.ownNe _ q).2.2 XD
  cases c with
  | bool b=>
   have hb:Value.bool ok=.bool b:=hc
   injection hb with hb
   subst hb
   cases ok with
   | false=>
    have hp₈:(compItems G T (items.drop (i+1)) (o.getD sl)).Holds (fun q=>P (combO o q.1,acc++q.2)) False:=hp₈
    exact ⟨k,Nat.lt_succ_self k,i+1,o,outs,mm,acc,ρ₈,by omega,I₈.weaken wk,evAll₈,stKeep I₆ st₆ ev₆₈,(ev₆₈.keep D _ hD₆ notMutD).exact K.frD,ev₆₈.hasL hacc₆,by omega,hp₈⟩
   | true=>
    have hp₈:(seqL (G av (o.getD sl)) (o.getD sl) fun v sl=>(compItems G T (items.drop (i+1)) sl).bind fun q=>.ret (q.1,v :: q.2)).Holds (fun q=>P (combO o q.1,acc++q.2)) False:=hp₈
    refine hG av (o.getD sl) ρ₈ s₈ I₈ _ False _ _ (seqL_holds hp₈) (fun y s₉ h₉=>?_) (fun hX=>hX.elim)
    obtain ⟨o₉,ya,ρ₉,I₉,hy,ev₉,hp₉⟩:=h₉
    have hp₉:=R.holds_bind hp₉
    have ev₆₉:=ev₆₈.trans ev₉
    have hD₉:s₉.heap.get? D=some (lstO outs mm):=(ev₆₉.keep D _ hD₆ notMutD).exact K.frD
    have hl:=hacc.length
    refine append_at hD₉ (fun h'' hs hg=>?_) (size_line (by simp; omega))
    have kp:=keep_sameBut hs
    let s':Shared:={ s₉ with heap:=h'' }
    have e9:(combO o o₉).getD sl=o₉.getD (o.getD sl):=combO_getD o o₉ sl
    have nJD:∀ b∈fp,b≠D:=fun b hb q=>by
     rcases It.fp b hb with e | ⟨ob,e⟩
     ·exact K.neJD (e.symm.trans q)
     ·have:=e.1; rw [q,K.newD] at this; exact nomatch this
    refine ⟨k,Nat.lt_succ_self k,i+1,combO o o₉,outs++[y],mm+1,acc++[ya],ρ₉,by omega,?_,?_,?_,?_,?_,by simp; omega,?_⟩
    ·rw [e9]; exact ((I₉.weaken wk).turn XD K.frD (s':=s') kp ⟨_,hg⟩)
    ·rw [e9]; exact (ev₆.trans ev₆₉).turn K.newD kp rfl rfl rfl
    ·exact It.walks.frame _ _ _ (stKeep I₆ st₆ ev₆₉) fun b hb ob e=>kp b ob (nJD b hb) e
    ·show h''.get? D=_
     rw [hg]; simp [lstO]
    ·rw [e9]
     exact HasL.mono prog w (has_turn (F:=F.comp sc cl C J D) XD kp) (fun _ _ e=>e) _ _ ((ev₆₉.hasL hacc₆).append ⟨y,[],rfl,hy,rfl⟩)
    ·rw [e9]
     refine R.holds_mono (fun q hq=>?_) id hp₉
     have hq:P (combO o (combO o₉ q.1),acc++(ya :: q.2)):=hq
     rw [combO_assoc,List.append_assoc]; exact hq
  | _=>exact hp₈.elim
end Mine
end
section
open PySem.SeqAt
namespace Mine
variable {prog:Program} {w:World} {EO:Value→Shared→Prop} {F:Frm} {env:AEnv} {sl:SL} {ρ:List Addr} {s:Shared} {A:Around} {d:Nat}
theorem clos_fold {env:Env}:∀ (names:List (Str×NameKind)) (cs:List (Str×Addr)),(∀ p∈names,p.2=.free→∃ c,env.cells.lookup p.1=some c)→(∀ p∈cs,env.cells.lookup p.1=some p.2) →
  ∃ cl,(forIn names cs (fun (x:Str×NameKind) (r:List (Str×Addr))=>match x with | (name,kind)=>(if (kind==.free)=true then do let a ← cellOf env name; pure (ForInStep.yield ((name,a) :: r)) else pure (ForInStep.yield r):Sem (ForInStep (List (Str×Addr))))):Sem (List (Str×Addr)))=pure cl ∧
   (∀ p∈cl,env.cells.lookup p.1=some p.2)∧(∀ p∈names,p.2=.free→∃ c,(p.1,c)∈cl)∧(∀ p∈cs,p∈cl)∧(∀ p∈cl,p∈cs∨(p.1,NameKind.free)∈names)
 | [],cs,_,h2=>⟨cs,rfl,h2,fun _ h=>(nomatch h),fun _ h=>h,fun _ h=>.inl h⟩
 | (x,k) :: names,cs,h1,h2=>by
  by_cases hk:k=.free
  ·subst hk
   obtain ⟨c,hc⟩:=h1 (x,.free) (by simp) rfl
   obtain ⟨cl,e1,e2,e3,e4,e5⟩:=clos_fold names ((x,c) :: cs) (fun p hp=>h1 p (by simp [hp])) (fun p hp=>by
    rcases List.mem_cons.mp hp with q | q
    ·subst q; exact hc
    ·exact h2 p q)
   refine ⟨cl,?_,e2,fun p hp hf=>?_,fun p hp=>e4 p (by simp [hp]),fun p hp=>?_⟩
   ·rw [List.forIn_cons]
    have:(cellOf env x:Sem Addr)=pure c:=by unfold cellOf; rw [hc]
    simp only [beq_self_eq_true,if_true,this,pure_bind]
    exact e1
   ·rcases List.mem_cons.mp hp with q | q
    ·subst q; exact ⟨c,e4 _ (by simp)⟩
    ·exact e3 p q hf
   ·rcases e5 p hp with q | q
    ·rcases List.mem_cons.mp q with q | q
     ·subst q; exact .inr (by simp)
     ·exact .inl q
    ·exact .inr (by simp [q])
  ·obtain ⟨cl,e1,e2,e3,e4,e5⟩:=clos_fold names cs (fun p hp=>h1 p (by simp [hp])) h2
   refine ⟨cl,?_,e2,fun p hp hf=>?_,e4,fun p hp=>(e5 p hp).elim .inl fun q=>.inr (by simp [q])⟩
   ·rw [List.forIn_cons]
    have:(k==NameKind.free)=false:=beq_eq_false_iff_ne.mpr hk
    simp only [this,Bool.false_eq_true,if_false,pure_bind]
    exact e1
   ·rcases List.mem_cons.mp hp with q | q
    ·subst q; exact absurd hf hk
    ·exact e3 p q hf
theorem clos_ok {scope:Scope} {env:Env} (h:∀ p∈scope.names,p.2=.free→∃ c,env.cells.lookup p.1=some c) :
  ∃ cl,closureFor scope env=pure cl∧(∀ x c,(x,c)∈cl→env.cells.lookup x=some c)∧(∀ x,(x,NameKind.free)∈scope.names→∃ c,(x,c)∈cl)∧∀ x c,(x,c)∈cl→(x,NameKind.free)∈scope.names:=by
 obtain ⟨cl,e1,e2,e3,_,e5⟩:=clos_fold scope.names [] h (fun _ h=>nomatch h)
 refine ⟨cl,?_,fun x c hx=>e2 (x,c) hx,fun x hx=>e3 (x,.free) hx rfl,fun x c hx=>(e5 (x,c) hx).elim (fun q=>nomatch q) id⟩
 unfold closureFor
 show ((forIn scope.names [] _:Sem (List (Str×Addr))) >>= fun r=>pure r)=_
 have:(forIn scope.names [] (fun (x:Str×NameKind) (r:List (Str×Addr))=>match x with | (name,kind)=>(if (kind==.free)=true then do let a ← cellOf env name; pure (ForInStep.yield ((name,a) :: r)) else pure (ForInStep.yield r):Sem (ForInStep (List (Str×Addr))))):Sem (List (Str×Addr))) >>= (fun r=>pure r)=(pure cl:Sem _):=by
  rw [e1,pure_bind]
 exact this
theorem mem_lookup {α:Type} {x:Str} {c:α}:∀ {cl:List (Str×α)},(x,c)∈cl→(∀ c',(x,c')∈cl→c'=c)→cl.lookup x=some c
 | [],h,_=>nomatch h
 | (y,a) :: cl,h,hu=>by
  rw [List.lookup_cons]
  cases e:x==y with
  | true=>
   have:=eq_of_beq e
   subst this
   rw [hu a (by simp)]
  | false=>
   rcases List.mem_cons.mp h with q | q
   ·injection q with q1 _; rw [q1,beq_self_eq_true] at e; exact nomatch e
   ·exact mem_lookup q fun c' hc=>hu c' (by simp [hc])
end Mine
end
section
open PySem.SeqAt
namespace Mine
variable {prog:Program} {w:World} {EO:Value→Shared→Prop} {F:Frm} {env:AEnv} {sl:SL} {ρ:List Addr} {s:Shared} {A:Around} {d:Nat}
theorem lookup_cap {sc:Scope} (x:Str):∀ (env:AEnv),(capEnv sc env).lookup x=if sc.names.lookup x=some .cell∨sc.names.lookup x=some .free then env.lookup x else none
 | []=>by simp [capEnv]
 | (y,v) :: env=>by
  have ih:=lookup_cap (sc:=sc) x env
  unfold capEnv at ih ⊢
  rw [List.filter_cons]
  cases e:x==y with
  | true=>
   have:=eq_of_beq e
   subst this
   by_cases h:sc.names.lookup x=some .cell∨sc.names.lookup x=some .free
   ·have hd:(decide (sc.names.lookup x=some NameKind.cell)||decide (sc.names.lookup x=some NameKind.free))=true:=by simpa using h
    simp only [hd,if_true,List.lookup_cons,beq_self_eq_true,if_pos h]
   ·have hd:(decide (sc.names.lookup x=some NameKind.cell)||decide (sc.names.lookup x=some NameKind.free))=false:=by simpa using h
    simp only [hd,Bool.false_eq_true,if_false]
    rw [ih,if_neg h,if_neg h]
  | false=>
   by_cases h:sc.names.lookup y=some .cell∨sc.names.lookup y=some .free
   ·have hd:(decide (sc.names.lookup y=some NameKind.cell)||decide (sc.names.lookup y=some NameKind.free))=true:=by simpa using h
    simp only [hd,if_true,List.lookup_cons,e]
    exact ih
   ·have hd:(decide (sc.names.lookup y=some NameKind.cell)||decide (sc.names.lookup y=some NameKind.free))=false:=by simpa using h
    simp only [hd,Bool.false_eq_true,if_false,List.lookup_cons,e]
    exact ih
theorem relabel_eq {scope:Scope} {env:Env} (h:env.scope.kind=.function):relabel scope env=compScope env.scope scope:=by
 unfold relabel compScope
 congr 1
 apply List.map_congr_left
 rintro ⟨n,k⟩ _
 simp only [h,beq_self_eq_true,Bool.and_true]
 rfl
theorem relabel_free {scope:Scope} {env:Env} {x:Str} (h:scope.names.lookup x=some .free):(relabel scope env).names.lookup x=some .cell∨(relabel scope env).names.lookup x=some .free:=by
 unfold relabel
 generalize scope.names=l at h
 induction l with
 | nil=>exact nomatch h
 | cons p l ih=>
  obtain ⟨y,k⟩:=p
  rw [List.lookup_cons] at h
  cases e:x==y with
  | true=>
   rw [e] at h
   injection h with h
   subst h
   simp only [List.map_cons]
   split
   ·left; rw [List.lookup_cons,e]
   ·right; rw [List.lookup_cons,e]
  | false=>
   rw [e] at h
   have hz:∀ q:Str×NameKind,q.1=y→List.lookup x (q :: List.map (fun (n,k)=>if (k==NameKind.free&&env.scope.kind==ScopeKind.function&&env.kindOf n==some NameKind.cell)=true then (n,NameKind.cell) else (n,k)) l)=List.lookup x (List.map (fun (n,k)=>if (k==NameKind.free&&env.scope.kind==ScopeKind.function&&env.kindOf n==some NameKind.cell)=true then (n,NameKind.cell) else (n,k)) l):=fun q hq=>by
    obtain ⟨a,b⟩:=q
    have hq:a=y:=hq
    rw [List.lookup_cons,hq,e]
   simp only [List.map_cons]
   rw [hz _ (by split<;>rfl)]
   exact ih h
theorem relabel_from {scope:Scope} {env:Env} {x:Str} {k:NameKind} (h:(relabel scope env).names.lookup x=some k):(x,k)∈scope.names∨((x,NameKind.free)∈scope.names∧k=.cell):=by
 have h:=mem_of_lookup h
 unfold relabel at h
 obtain ⟨⟨n,j⟩,h1,h2⟩:=List.mem_map.mp h
 dsimp only at h2
 split at h2
 ·rename_i hc
  injection h2 with e1 e2
  subst e1
  simp only [Bool.and_eq_true,beq_iff_eq] at hc
  obtain ⟨⟨q,_⟩,_⟩:=hc
  subst q
  exact .inr ⟨h1,e2.symm⟩
 ·injection h2 with e1 e2
  subst e1 e2
  exact .inl h1
structure CompScope (outer scope:Scope) (x:Str) (iter:Expr):Prop where
 kind:scope.kind=.function
 nocell:∀ p∈scope.names,p.2≠.cell
 locals:∀ p∈scope.names,p.2=.local→scope.names.lookup p.1=some .local
 var:scope.names.lookup x=some .local
 frees:∀ p∈scope.names,p.2=.free→scope.names.lookup p.1=some .free
 outer:∀ p∈scope.names,p.2=.free→outer.names.lookup p.1=some .cell∨outer.names.lookup p.1=some .free
 set:notSet iter=true
theorem compOk_and {outer scope:Scope} {x:Str} {iter:Expr} (h:compOk outer scope x iter=true):CompScope outer scope x iter:=by
 unfold compOk at h
 simp only [Bool.and_eq_true,decide_eq_true_eq,List.all_eq_true,Bool.not_eq_true',decide_eq_false_iff_not,Bool.or_eq_true] at h
 obtain ⟨⟨⟨⟨⟨⟨h1,h2⟩,h3⟩,h4⟩,h5⟩,h6⟩,h7⟩:=h
 exact ⟨h1,h2,fun p hp e=>(h3 p hp).resolve_left fun q=>q e,h4,fun p hp e=>(h5 p hp).resolve_left fun q=>q e,fun p hp e=>by
  rcases h6 p hp with (q | q) | q
  ·exact absurd e q
  ·exact .inl q
  ·exact .inr q,h7⟩
theorem compInts_items {G:AV→SL→RE} {sl:SL}:∀ {l:List Int},(∀ i∈l,∃ j,G (.sym i) sl=.ret (none,.sym j)) →
  (compItems G (fun _ _=>.ret (none,.bool true)) (l.map .sym) sl).Holds (fun q=>q=(none,(l.map fun i=>match G (.sym i) sl with | .ret (none,.sym j)=>j | _=>0).map .sym)) False
 | [],_=>rfl
 | i :: l,h=>by
  obtain ⟨j,hj⟩:=h i (by simp)
  have ih:=compInts_items (l:=l) fun k hk=>h k (by simp [hk])
  show (seqL (G (.sym i) sl) sl fun v sl=>(compItems G (fun _ _=>.ret (none,.bool true)) (l.map .sym) sl).bind fun q=>.ret (q.1,v :: q.2)).Holds _ _
  rw [hj]
  show ((compItems G (fun _ _=>.ret (none,.bool true)) (l.map .sym) sl).bind fun q=>.ret (q.1,AV.sym j :: q.2)).Holds _ _
  refine R.holds_bind' (R.holds_mono (fun q hq=>?_) id ih)
  subst hq
  show _=_
  simp only [List.map_cons,hj]
theorem comp_ok {ev:Ev} (hS:StOK F) (hFr:FrmOK F A) (r:Room A d)
  (hIH:∀ F':Frm,F'.base=F.base→FrmOK F' A→StOK F'→∀ env,Ok prog w EO F' env A (ev F'.env.scope env)∧OkB prog w EO F' env A (ev F'.env.scope env))
  (I:Inv prog w F env sl ρ s) {elt iter:Expr} {x:Str} {px:Pos} {ifs:List Expr} {scope:Scope} {pos:Pos} :
  Tri prog w EO F env sl ρ s A (match compOk F.env.scope scope x iter with
  | true=>noX (seqE (ev F.env.scope env iter sl) sl fun src sl=>seqE (frzE sl src) sl fun src sl=>compA (ev (compScope F.env.scope scope)) (capEnv (compScope F.env.scope scope) env) x elt ifs src sl)
  | false=>.fail) (eval (.ListComp elt [⟨.Name x px,iter,ifs,0⟩] scope pos) F.env):=fun P X Q E h hQ hE=>by
 split at h
 ·rename_i hco
  replace hco:=compOk_and hco
  replace h:=noX_holds h
  obtain ⟨cl,hclos,hcl1,hcl2,hcl3⟩:=clos_ok (scope:=scope) (env:=F.env) fun p hp hf=>hS.cells p.1 (hco.outer p hp hf)
  have hset:∀ y,foldedSetIterable iter F.env y=pure y:=fun y=>by
   have:=hco.set
   cases iter<;>first | rfl | exact nomatch this
  rw [eval_ListComp]
  refine wpAny_comprehension_free (use:=none) rfl hset hclos hco.kind hco.locals ?_
  refine (hIH F rfl hFr hS env).1 iter sl ρ s I _ False _ _ (seqE_holds h) (fun xv s₁ h₁=>?_) (fun hX=>hX.elim)
  obtain ⟨o₁,src,ρ₁,I₁,hsrc,ev₁,hp1⟩:=h₁
  obtain ⟨o₂,src',I₂,hsrc',ev₂,hpu,hp⟩:=frzE_ok I₁ hsrc (seqE_holds hp1)
  clear hp1
  dsimp only at hp
  -- everything after the source
  have core:∀ (items:List AV) (T:AV→SL→RE) (P':Option SL×List AV→Prop),iterA src'=some items→items.length<10000000 →
    (∀ v sl,T v sl=testA (ev (compScope F.env.scope scope) (putEnv x v (capEnv (compScope F.env.scope scope) env))) ifs sl) →
    (compItems (fun v sl=>ev (compScope F.env.scope scope) (putEnv x v (capEnv (compScope F.env.scope scope) env)) elt sl) T items (o₂.getD (o₁.getD sl))).Holds P' False →
    (∀ (s':Shared) o acc D ρ',Inv prog w F env (o.getD (o₂.getD (o₁.getD sl))) ρ' s'→Evo F (o₂.getD (o₁.getD sl)) ρ₁ s₁ (o.getD (o₂.getD (o₁.getD sl))) ρ' s'→Has prog w (Vw F (o.getD (o₂.getD (o₁.getD sl))) ρ' s'.heap) ρ' (.lst acc) (.ref D)→P' (o,acc)→Q (.ref D) s') →
    wpAny (model prog w) A (pyIter xv) (fun it s₂=>wpAny (model prog w) A (newList []) (fun acc s₃=>
     wpAny (model prog w) A (newFunctionEnv scope F.env.globals cl [] F.env.qual none .none (some F.env)) (fun cenv s₄=>
      codeAny (model prog w) A (.compStart (.ListComp elt [⟨.Name x px,iter,ifs,0⟩] scope pos) 0 it acc { cenv with scope:=relabel scope F.env }) (compPost (model prog w) A E none Q acc cenv.locals) s₄) E s₃) E s₂) E s₁:=by
   intro items T P' hit hlen hT hold hfin
   refine pyIter_ok r.hand I₂ hit hsrc' fun J s₂ fp n P₀ St It=>?_
   refine wpAny_newObj_type (wpAny_newFunctionEnv hco.nocell (by intro y hy; simp at hy) (fun h₁ hns₁ hsb₁=>?_) hco.kind)
   dsimp only at hns₁ hsb₁ ⊢
   let D:=s₂.heap.objs.size
   let H2:Heap:=s₂.heap.push { cls:=.type "list",dict:=none,data:=.seq ([]:List Value).toArray }
   let Cc:=H2.objs.size
   let s₄:Shared:={ s₂ with heap:=h₁,toks:=s₂.toks+([]:List (Str×Value)).length }
   have hCs:Cc=s₂.heap.objs.size+1:=Heap.size_push ..
   have hDC:D≠Cc:=by rw [hCs]; exact Nat.ne_of_lt (Nat.lt_succ_self _)
   have old:∀ b o,s₂.heap.get? b=some o→h₁.get? b=some o:=fun b o e=>hsb₁.extBut b o (by
    have:=Heap.lt_size e
    show b≠Cc
    rw [hCs]; exact Nat.ne_of_lt (Nat.lt_succ_of_lt this)) (Heap.get?_push_of_some _ (Heap.get?_push_of_some _ e))
   have hDo:h₁.get? D=some (lstO [] 0):=hsb₁.extBut D _ hDC (Heap.get?_push_of_some _ (Heap.get?_push_size _ rfl))
   have g24:Grow s₂ s₄:=⟨old,rfl,rfl,rfl⟩
   have g14:Grow s₁ s₄:=⟨fun a o e=>old a o (It.grow.keep a o e),It.grow.gens,It.grow.drawn,It.grow.os⟩
   have fresh:∀ a,s₂.heap.get? a=none→s₁.heap.get? a=none:=fun a ha=>by
    cases e:s₁.heap.get? a with
    | none=>rfl
    | some o=>rw [It.grow.keep a o e] at ha; exact nomatch ha
   have nD:s₂.heap.get? D=none:=get_size _
   have nC:s₂.heap.get? Cc=none:=by
    cases e:s₂.heap.get? Cc with
    | none=>rfl
    | some o=>
     have hlt:=Heap.lt_size e
     rw [hCs] at hlt
     exact absurd hlt (Nat.not_lt.mpr (Nat.le_succ _))
   have neJ:∀ z,s₂.heap.get? z=none→z≠J:=fun z hz e=>by
    obtain ⟨o,ho⟩:=It.live
    rw [← e,hz] at ho; exact nomatch ho
   have K:CompOK F scope cl s₁ Cc J D:=
    ⟨fun y c e=>hcl1 y c (mem_of_lookup e),fun y c e=>mem_lookup e fun c' hc'=>by
     have a1:=hcl1 y c e
     have a2:=hcl1 y c' hc'
     rw [a1] at a2; injection a2 with a2; exact a2.symm,fresh _ nC,It.new,fresh _ nD,neJ _ nC,hDC.symm,(neJ _ nD).symm,I₂.new_around1 It.new,I₂.new_around1 (fresh _ nD)⟩
   have hsc:(F.comp scope cl Cc J D).env.scope=compScope F.env.scope scope:=relabel_eq hFr.kind
   have kof:∀ y,(F.comp scope cl Cc J D).env.kindOf y=(compScope F.env.scope scope).names.lookup y:=fun y=>by rw [← hsc]; rfl
   have frm:FrmOK (F.comp scope cl Cc J D) A:=⟨hco.kind,hFr.glob,hFr.blt,let ⟨l,e1,e2⟩:=hFr.frames; ⟨l,e1,fun e he=>let ⟨q1,L,q2,q3⟩:=e2 e he; ⟨q1,L,q2,.inl q3⟩⟩⟩
   have sto:StOK (F.comp scope cl Cc J D):=⟨hco.kind,fun y z c e1 e2=>hS.apart y z c (K.sub y c e1) (K.sub z c e2),fun y hy=>by
    have:(y,NameKind.free)∈scope.names:=by
     rcases hy with hy | hy
     ·rcases relabel_from hy with q | ⟨q,_⟩
      ·exact absurd rfl (hco.nocell _ q)
      ·exact q
     ·rcases relabel_from hy with q | ⟨_,q⟩
      ·exact q
      ·exact nomatch q
    obtain ⟨c,hc⟩:=hcl2 y this
    exact ⟨c,K.mem y c hc⟩⟩
   have hxl:(F.comp scope cl Cc J D).env.scope.names.lookup x=some .local:=lookup_relabel_local hco.var
   have hcx:(capEnv (compScope F.env.scope scope) env).lookup x=none:=by
    rw [lookup_cap,if_neg]
    rw [← hsc,hxl]
    rintro (q | q)<;>exact nomatch q
   have capIn:∀ y av,(capEnv (compScope F.env.scope scope) env).lookup y=some av→env.lookup y=some av∧((F.comp scope cl Cc J D).env.kindOf y=some .cell∨(F.comp scope cl Cc J D).env.kindOf y=some .free)∧∃ c,cl.lookup y=some c∧(F.env.kindOf y=some .cell∨F.env.kindOf y=some .free):=fun y av e=>by
    rw [lookup_cap] at e
    split at e
    ·rename_i hk
     have hk':(F.comp scope cl Cc J D).env.kindOf y=some .cell∨(F.comp scope cl Cc J D).env.kindOf y=some .free:=by rw [kof]; exact hk
     obtain ⟨c,hc⟩:=sto.cells y hk'
     exact ⟨e,hk',c,hc,hco.outer (y,.free) (hcl3 y c (mem_of_lookup hc)) rfl⟩
    ·exact nomatch e
   have capOut:∀ y c av,env.lookup y=some av→cl.lookup y=some c→(capEnv (compScope F.env.scope scope) env).lookup y=some av∧((F.comp scope cl Cc J D).env.kindOf y=some .cell∨(F.comp scope cl Cc J D).env.kindOf y=some .free):=fun y c av e1 e2=>by
    have hk:(F.comp scope cl Cc J D).env.kindOf y=some .cell∨(F.comp scope cl Cc J D).env.kindOf y=some .free:=relabel_free (hco.frees (y,.free) (hcl3 y c (mem_of_lookup e2)) rfl)
    refine ⟨?_,hk⟩
    rw [lookup_cap,if_pos (by rw [← kof]; exact hk)]
    exact e1
   have Ic:Inv prog w (F.comp scope cl Cc J D) (capEnv (compScope F.env.scope scope) env) (o₂.getD (o₁.getD sl)) ρ₁ s₄:=
    I₂.comp K g14 hns₁ (let ⟨o,e⟩:=It.live; ⟨o,old J o e⟩) ⟨_,hDo⟩ capIn
   have evc:Evo (F.comp scope cl Cc J D) (o₂.getD (o₁.getD sl)) ρ₁ s₁ (o₂.getD (o₁.getD sl)) ρ₁ s₄:=⟨fun a o e _=>.of (g14.keep a o e),g14.gens,g14.drawn,g14.os,fun _ _ e=>e,fun _ h=>.inl h,fun a o e=>⟨o,g14.keep a o e⟩⟩
   have hst₄:St 0 h₁:=It.walks.frame _ _ _ It.st fun b _ o e=>old b o e
   have ih:=fun env=>hIH (F.comp scope cl Cc J D) rfl frm sto env
   rw [hsc] at ih
   have loop:codeAny (model prog w) A (.compLoop (.ListComp elt [⟨.Name x px,iter,ifs,0⟩] scope pos) 0 (.ref J) (.ref D) (F.comp scope cl Cc J D).env) (compPost (model prog w) A E none Q (.ref D) Cc) s₄:=by
    refine comp_loop (EO:=EO) K It sto (by unfold canStore; rw [hxl]) hcx hlen (T:=T) (G:=fun v sl=>ev (compScope F.env.scope scope) (putEnv x v (capEnv (compScope F.env.scope scope) env)) elt sl) ?_ (fun av sl ρ s I=>(ih _).1 elt sl ρ s I) ?_ Ic evc hst₄ hDo hold
    ·intro av sl ρ s I
     rw [hT]
     match ifs with
     | []=>exact fun P X Q E h hQ _=>wpAny_tests_nil (hQ _ _ (qe_calm I (.tok s.toks) (av:=.bool true) rfl h.2))
     | [t]=>exact fun P X Q E h hQ hE=>wpAny_tests_one ((ih _).2 t sl ρ s I P X Q E h hQ hE)
     | _ :: _ :: _=>exact fun P X Q E h _ _=>h.elim
    ·intro s' s₉ o acc outs mm ρ' I' ev' hD' hacc hp' kp' hg' hd' ho'
     obtain ⟨m',hm',_⟩:=I'.ns
     have hCJ:Cc≠J:=K.neCJ
     refine ⟨m',hm'.at fun o e=>kp' _ o hCJ e,fun h'' hs''=>?_⟩
     have kpp:∀ a ob,a≠Cc→a≠J→s'.heap.get? a=some ob→h''.get? a=some ob:=fun a ob n1 n2 e=>hs''.extBut a ob n1 (kp' a ob n2 e)
     obtain ⟨f1,f2,f3⟩:=I₂.uncomp K I' ev' hS.apart capOut (s₉:={ s₉ with heap:=h'' }) kpp hg' hd' ho'
     have hDn:h''.get? D=some (lstO outs mm):=kpp D _ hDC (neJ _ nD) hD'
     have hbad:¬ Bad F (o.getD (o₂.getD (o₁.getD sl))) ρ' D:=fun q=>by
      rcases q with q | q | ⟨y,q⟩ | q
      ·exact I₂.fresh (fresh _ nD) (.inl q)
      ·exact I₂.fresh (fresh _ nD) (.inr (.inl q))
      ·exact I₂.fresh (fresh _ nD) (.inr (.inr (.inl ⟨y,q⟩)))
      ·exact (I'.ownNe _ q).2.2 (.inr (.inr (.inr (.inr rfl))))
     have hsm:(D==sysModules)=false:=I₂.notSm (by
      cases e:F.base.get? D with
      | none=>rfl
      | some o=>have:=I₂.base _ o e; rw [fresh _ nD] at this; exact nomatch this)
     exact hfin _ o acc D ρ' f1 f2 ⟨D,outs,mm,rfl,⟨hDn,hbad,hsm⟩,HasL.mono prog w f3 (fun _ _ e=>e) _ _ hacc⟩ hp'
   exact codeAny_compStart_list loop (It.walks.self 0 _ _ _ hst₄ loop)
  unfold compA at hp
  split at hp
  ·rename_i l
   obtain ⟨⟨hlen,hall⟩,hp⟩:=hp
   refine core (l.map .sym) (fun _ _=>.ret (none,.bool true)) _ rfl (by simpa using hlen) (fun v sl=>rfl) (compInts_items hall) fun s' o acc D ρ' I' ev' hh hq=>?_
   injection hq with q1 q2
   subst q1 q2
   obtain ⟨a,vs,n,e,hv,hl⟩:=hh
   exact hQ _ _ (QE.after ev₁ (QE.after ev₂ ⟨none,.ints _,ρ',I',⟨a,vs,n,e,hv,intsA_of_hasL hl⟩,ev',hp⟩))
  ·split at hp
   ·rename_i items hit
    obtain ⟨hz,hp⟩:=guardB_holds hp
    refine core items _ _ hit (blt_lt hz) (fun v sl=>rfl) (seqLE_holds hp) fun s' o acc D ρ' I' ev' hh hq=>?_
    exact hQ _ _ (QE.after ev₁ (QE.after ev₂ ⟨o,.lst acc,ρ',I',hh,ev',by
     have hq:P (combO o₁ (combO o₂ (combO o none)),AV.lst acc):=hq
     rw [combO_none] at hq; exact hq⟩))
   ·exact hp.elim
 ·exact h.elim
end Mine
end
section
open PySem.SeqAt
namespace Mine
variable {prog:Program} {w:World} {EO:Value→Shared→Prop} {F:Frm} {env:AEnv} {sl:SL} {ρ:List Addr} {s:Shared} {A:Around} {d:Nat}
theorem Tri.eq {x y:RE} {t:Sem Value} (h:Tri prog w EO F env sl ρ s A x t) (e:y=x):Tri prog w EO F env sl ρ s A y t:=e ▸ h
theorem binop_ok {ev:Expr→SL→RE} (hev:Ok prog w EO F env A ev) (I:Inv prog w F env sl ρ s) {l r:Expr} {op:Operator} {pos:Pos} :
  Tri prog w EO F env sl ρ s A (seqE (ev l sl) sl fun a sl=>seqE (ev r sl) sl fun b _=>pureE (binA op a b)) (eval (.BinOp l op r pos) F.env):=fun P X Q E h hQ hE=>by
 refine wpAny_BinOp (hev l sl ρ s I _ X _ _ (seqE_holds h) (fun v s₁ h₁=>?_) hE)
 obtain ⟨o₁,a,ρ₁,I₁,ha,ev₁,hp⟩:=h₁
 refine hev r _ ρ₁ s₁ I₁ _ X _ _ (seqE_holds hp) (fun u s₂ h₂=>?_) (hE.after ev₁)
 obtain ⟨o₂,b,ρ₂,I₂,hb,ev₂,hp₂⟩:=h₂
 have hp₂:=NoExc.holds (binA_noexc ..) (pureE_holds hp₂)
 exact binA_sound I₂ (ev₂.has ha) hb hp₂ fun v s' av cm hv hp=>hQ _ _ (QE.after ev₁ (QE.after ev₂ (qe_calm I₂ cm hv hp)))
theorem unop_ok {ev:Expr→SL→RE} (hev:Ok prog w EO F env A ev) (I:Inv prog w F env sl ρ s) {x:Expr} {op:UnaryOp} {pos:Pos} :
  Tri prog w EO F env sl ρ s A (seqE (ev x sl) sl fun a _=>pureE (unA op a)) (eval (.UnaryOp op x pos) F.env):=fun P X Q E h hQ hE=>by
 refine wpAny_UnaryOp (hev x sl ρ s I _ X _ _ (seqE_holds h) (fun v s₁ h₁=>?_) hE)
 obtain ⟨o₁,a,ρ₁,I₁,ha,ev₁,hp⟩:=h₁
 have hp:=NoExc.holds (unA_noexc ..) (pureE_holds hp)
 exact unA_sound ha hp fun v s' av cm hv hp=>hQ _ _ (QE.after ev₁ (qe_calm I₁ cm hv hp))
def Below (prog:Program) (w:World) (EO:Value→Shared→Prop) (G:Heap) (A:Around) (ev:Ev):Prop:=
 ∀ F:Frm,F.base=G→FrmOK F A→StOK F→∀ env,Ok prog w EO F env A (ev F.env.scope env)∧OkB prog w EO F env A (ev F.env.scope env)
theorem callN_ok {C:Ctx} (hF:FOK F C prog w A) {ev:Expr→SL→RE} (hev:Ok prog w EO F env A ev) (r:Room A d) (I:Inv prog w F env sl ρ s) {f:Str} {args:List Expr} {p pos:Pos}
  (hg:F.env.scope.names.lookup f=some .globalImplicit) (hd:(f==("__debug__" : Str))=false) (hns:noStar args=true) :
  Tri prog w EO F env sl ρ s A (callN C d ev env f args sl) (eval (.Call (.Name f p) args [] pos) F.env):=by
 unfold callN
 split
 ·rename_i wf wx rest hk
  split
  ·rename_i n h1 h2 h3
   exact callW_ok hF hev r I hk (blt_lt h3) hg hd h1 h2 hns
  ·exact Tri.fail
 ·exact Tri.fail
 ·split
  ·rename_i fn hk
   split
   ·rename_i hb
    exact callF_ok hF hev r I hk (blt_lt hb) hg hd hns
   ·exact Tri.fail
  ·split
   ·rename_i k hk
    exact callK_ok hF hev r I hk hg hd hns
   ·exact Tri.fail
theorem methA_ok {ev:Expr→SL→RE} (hev:Ok prog w EO F env A ev) (hevH:∀ d,Ok prog w EO (F.hide d) env A ev) (I:Inv prog w F env sl ρ s) {o:Expr} {m:Str} {args:List Expr} {apos pos:Pos} :
  Tri prog w EO F env sl ρ s A (methA ev o m apos pos args sl) (eval (.Call (.Attribute o m apos) args [] pos) F.env):=by
 unfold methA
 split
 ·rename_i k hk hc
  simp only [Bool.and_eq_true] at hc
  obtain ⟨⟨⟨c1,c2⟩,c3⟩,c4⟩:=hc
  have hL:=fun sl ρ s I=>evL_ok hev pos args sl ρ s I
  have hO:=fun sl ρ s I=>evOwns_ok hev hevH pos args sl ρ s I
  cases k
  ·exact callM_ok hev I hk c1 c2 (blt_lt c3) c4 hL
  ·exact callM_ok hev I hk c1 c2 (blt_lt c3) c4 hL
  ·exact callM_ok hev I hk c1 c2 (blt_lt c3) c4 hL
  ·exact callM_ok hev I hk c1 c2 (blt_lt c3) c4 hL
  ·exact callM_ok hev I hk c1 c2 (blt_lt c3) c4 hL
  ·exact callM_ok hev I hk c1 c2 (blt_lt c3) c4 hO
 ·exact Tri.fail
theorem nameA_ok {C:Ctx} (hF:FOK F C prog w A) {ev:Expr→SL→RE} (hev:Ok prog w EO F env A ev) (r:Room A d) (I:Inv prog w F env sl ρ s) {f:Str} {args:List Expr} {p pos:Pos} :
  Tri prog w EO F env sl ρ s A (nameA C d ev F.env.scope env f args sl) (eval (.Call (.Name f p) args [] pos) F.env):=by
 unfold nameA
 split
 ·exact Tri.fail
 ·split
  ·rename_i hg hc
   simp only [Bool.and_eq_true,Bool.not_eq_true'] at hc
   exact callN_ok hF hev r I hg hc.2 hc.1
  ·exact Tri.fail
theorem genA_ok {C:Ctx} {ev:Ev} (hF:FOK F C prog w A) (hS:StOK F) (r:Room A d) (hIH:Below prog w EO F.base A ev) (I:Inv prog w F env sl ρ s) {elt:Expr} {gens:List Comprehension} {scope:Scope} {pos:Pos} :
  Tri prog w EO F env sl ρ s A (genA ev F.env.scope env elt gens scope sl) (eval (.ListComp elt gens scope pos) F.env):=by
 unfold genA
 split
 ·exact comp_ok hS hF.frm r (fun F' hb hf hs env=>hIH F' hb hf hs env) I
 ·exact Tri.fail
theorem stepE_ok {C:Ctx} {ev:Ev} (hF:FOK F C prog w A) (hS:StOK F) (r:Room A d) (hIH:Below prog w EO F.base A ev) (I:Inv prog w F env sl ρ s) (e:Expr) :
  Tri prog w EO F env sl ρ s A (stepE C d ev F.env.scope env e sl) (eval e F.env):=by
 have hev:=(hIH F rfl hF.frm hS env).1
 have hB:=(hIH F rfl hF.frm hS env).2
 have hevH:∀ d,Ok prog w EO (F.hide d) env A (ev F.env.scope env):=fun d=>(hIH (F.hide d) rfl ⟨hF.frm.kind,hF.frm.glob,hF.frm.blt,hF.frm.frames⟩ ⟨hS.kind,hS.apart,hS.cells⟩ env).1
 cases e with
 | Constant c k pos=>
  cases c with
  | none=>exact Tri.ret I fun Q E h=>wpAny_Constant_none (h _ _ (.tok s.toks) rfl)
  | bool b=>exact Tri.ret I fun Q E h=>wpAny_Constant_bool (h _ _ (.tok s.toks) rfl)
  | int i=>exact Tri.ret I fun Q E h=>wpAny_Constant_int (h _ _ (.tok _) ⟨_,rfl⟩)
  | str x=>exact Tri.ret I fun Q E h=>wpAny_Constant_str (h _ _ (.tok _) ⟨_,rfl⟩)
  | _=>exact Tri.fail
 | Name x pos=>exact fun P X Q E h hQ hE=>name_ok hF I h hQ
 | BinOp l op r' pos=>exact binop_ok hev I
 | UnaryOp op x pos=>exact unop_ok hev I
 | BoolOp op vs pos=>exact boolE_ok hev pos op vs sl ρ s I
 | Compare l ops rs pos=>
  intro P X Q E h hQ hE
  rw [arm_eval_Compare]
  exact wpAny_bind (Tri.seq (u:=fun v=>compareChain pos v ops (markedEach ops rs (evalEach rs F.env))) (hev l sl ρ s I) (fun v av sl₁ ρ₁ s₁ I₁ hv ev₁=>cmpE_ok hev r pos ops rs av v sl₁ ρ₁ s₁ I₁ hv) h hQ hE)
 | IfExp t b o pos=>exact ifexp_ok hev hB I
 | List elts pos=>exact list_ok hev I
 | Tuple elts k pos=>exact tuple_ok hev I
 | Dict keys values pos=>exact dict_ok hevH I
 | Subscript v i pos=>
  cases i with
  | Slice l u t p=>exact slice_ok hev I
  | _=>exact sub_ok hev I (fun _ _ _ _ h=>nomatch h)
 | Call f args kws pos=>
  cases kws with
  | cons k ks=>cases f<;>exact Tri.fail
  | nil=>
   cases f with
   | Attribute o m apos=>exact methA_ok hev hevH I
   | Name f p=>exact nameA_ok hF hev r I
   | _=>exact Tri.fail
 | ListComp elt gens scope pos=>exact genA_ok hF hS r hIH I
 | _=>exact Tri.fail
end Mine
end
section
open PySem.SeqAt
namespace Mine
variable {prog:Program} {w:World} {EO:Value→Shared→Prop} {F:Frm} {env:AEnv} {sl:SL} {ρ:List Addr} {s:Shared} {A:Around} {d:Nat}
theorem TriB.value {x:RE} {e:Expr} {t:Sem Value} (h:Tri prog w EO F env sl ρ s A x t) (he:isTrue e F.env t=(do let v ← t; standAt e.pos; holding [v] (truthy v)):=by rfl):TriB prog w EO F env sl ρ s A x (isTrue e F.env t):=
 fun P X Q E hh hQ hE=>by
  refine wpAny_isTrue_value (h _ X _ _ hh (fun v s' hq=>?_) hE) he
  obtain ⟨o,av,ρ',h1,h2,h3,h4,h5⟩:=hq
  obtain ⟨b,c,_,e⟩:=boolOf_some h4 h2
  subst e
  exact wpAny_truthy_bool (hQ _ _ ⟨o,av,ρ',h1,h2,h3,h5⟩)
theorem not_okB {ev:Expr→SL→RE} (hB:OkB prog w EO F env A ev) (I:Inv prog w F env sl ρ s) {x:Expr} {pos:Pos} :
  TriB prog w EO F env sl ρ s A (seqE (ev x sl) sl fun a _=>pureE (unA .Not a)) (isTrue (.UnaryOp .Not x pos) F.env (eval (.UnaryOp .Not x pos) F.env)):=fun P X Q E h hQ hE=>by
 show wpAny _ _ (do let b ← isTrue x F.env (eval x F.env); pure (!b)) _ _ _
 refine wpAny_bind (hB x sl ρ s I (fun p=>(pureE (unA .Not p.2)).Holds (fun q=>P (combO p.1 q.1,q.2)) X) X _ _ (R.holds_mono (fun p hp=>?_) id (seqE_holds h)) (fun b s₁ h₁=>?_) hE)
 ·constructor
  ·have hp:=pureE_holds hp
   unfold unA at hp
   dsimp only at hp
   split at hp
   ·rename_i e; rw [e]; rfl
   ·exact hp.elim
  ·exact R.holds_mono (fun q hq=>hq.2) id hp
 ·obtain ⟨o,av,ρ₁,I₁,hv,ev₁,hp⟩:=h₁
  have hp:=pureE_holds hp
  unfold unA at hp
  dsimp only at hp
  split at hp
  ·rename_i c t e
   have hv:=boolOf_has e hv
   injection hv with hv
   subst hv
   exact wpAny_pure (hQ _ _ (QE.after ev₁ (qe_calm I₁ (.tok s₁.toks) (has_mkB _ _) hp)))
  ·exact hp.elim
theorem stepE_okB {C:Ctx} {ev:Ev} (hF:FOK F C prog w A) (hS:StOK F) (r:Room A d) (hIH:Below prog w EO F.base A ev) (I:Inv prog w F env sl ρ s) (e:Expr) :
  TriB prog w EO F env sl ρ s A (stepE C d ev F.env.scope env e sl) (isTrue e F.env (eval e F.env)):=by
 have hev:=(hIH F rfl hF.frm hS env).1
 have hB:=(hIH F rfl hF.frm hS env).2
 have main:=stepE_ok hF hS r hIH I e
 cases e with
 | UnaryOp op x pos=>
  cases op with
  | Not=>exact not_okB hB I
  | _=>exact TriB.value main
 | BoolOp op vs pos=>exact boolE_okB hB op vs sl ρ s I
 | IfExp t b o pos=>exact ifexp_okB hB I
 | Compare l ops rs pos=>
  intro P X Q E h hQ hE
  show wpAny _ _ (do testChain pos (← eval l F.env) ops (markedEach ops rs (evalEach rs F.env))) _ _ _
  exact wpAny_bind (TriB.seq (u:=fun v=>testChain pos v ops (markedEach ops rs (evalEach rs F.env))) (hev l sl ρ s I) (fun v av sl₁ ρ₁ s₁ I₁ hv ev₁=>cmpE_okB hev r pos ops rs av v sl₁ ρ₁ s₁ I₁ hv) h hQ hE)
 | _=>exact TriB.value main
theorem evalE_ok {C:Ctx} {G:Heap} (hG:GOK prog w C G) (r:Room A d):∀ n:Nat,Below prog w EO G A (evalE C d n)
 | 0,F,_,_,_,env=>⟨fun e sl ρ s I=>Tri.fail,fun e sl ρ s I P X Q E h _ _=>h.elim⟩
 | n+1,F,hb,hf,hs,env=>by
  subst hb
  exact ⟨fun e sl ρ s I=>stepE_ok ⟨hf,hG⟩ hs r (evalE_ok hG r n) I e,fun e sl ρ s I=>stepE_okB ⟨hf,hG⟩ hs r (evalE_ok hG r n) I e⟩
end Mine
end
section
open PySem.SeqAt
namespace Mine
variable {prog:Program} {w:World} {EO:Value→Shared→Prop} {F:Frm} {env:AEnv} {sl:SL} {ρ:List Addr} {s:Shared} {A:Around} {d:Nat}
def putAll:List Str→List AV→AEnv→AEnv
 | x :: xs,v :: vs,env=>putAll xs vs (putEnv x v env)
 | _,_,env=>env
theorem bindTs_names {sc:Scope}:∀ {ts:List Expr} {vs:List AV} {env env':AEnv},bindTs sc ts vs env=some env'→∃ xs,namesOf ts=some xs∧xs.length=vs.length∧ts.length=vs.length∧env'=putAll xs vs env∧∀ x∈xs,canStore sc x=true
 | [],[],env,env',h=>by
  have h:some env=some env':=h
  injection h with h; subst h; exact ⟨[],rfl,rfl,rfl,rfl,fun _ h=>nomatch h⟩
 | [],_ :: _,_,_,h=>nomatch h
 | _ :: _,[],_,_,h=>nomatch h
 | t :: ts,v :: vs,env,env',h=>by
  simp only [bindTs] at h
  split at h
  ·rename_i e1 hb
   cases t with
   | Name x p=>
    simp only [bindT] at hb
    split at hb
    ·rename_i hc
     injection hb with hb
     subst hb
     obtain ⟨xs,h1,h2,h3,h4,h5⟩:=bindTs_names h
     refine ⟨x :: xs,by simp [namesOf,h1],by simp [h2],by simp [h3],h4,fun y hy=>?_⟩
     rcases List.mem_cons.mp hy with q | q
     ·subst q; exact hc
     ·exact h5 y q
    ·exact nomatch hb
   | _=>exact nomatch hb
  ·exact nomatch h
theorem putAll_lookup {x y:Str} {v:AV}:∀ {xs:List Str} {vs:List AV} {env:AEnv},x ∉ xs→(putAll xs vs (putEnv x v env)).lookup y=if y=x then some v else (putAll xs vs env).lookup y
 | [],[],env,_=>lookup_put x y v env
 | [],_ :: _,env,_=>lookup_put x y v env
 | _ :: _,[],env,_=>lookup_put x y v env
 | z :: xs,u :: vs,env,h=>by
  have hz:z≠x:=fun q=>h (by simp [q])
  have hx:x ∉ xs:=fun q=>h (by simp [q])
  show (putAll xs vs (putEnv z u (putEnv x v env))).lookup y=if y=x then some v else (putAll xs vs (putEnv z u env)).lookup y
  by_cases hzz:z∈xs
  ·-- the later one wins
   have gen:∀ (xs:List Str) (vs:List AV) (e e':AEnv),(∀ w,e.lookup w=e'.lookup w)→∀ w,(putAll xs vs e).lookup w=(putAll xs vs e').lookup w:=by
    intro xs
    induction xs with
    | nil=>intro vs e e' he w; cases vs<;>exact he w
    | cons a r ih=>
     intro vs e e' he w
     cases vs with
     | nil=>exact he w
     | cons b q=>exact ih q _ _ (fun w=>by rw [lookup_put,lookup_put,he]) w
   rw [gen xs vs (putEnv z u (putEnv x v env)) (putEnv x v (putEnv z u env)) (fun w=>by
    rw [lookup_put,lookup_put,lookup_put,lookup_put]
    by_cases h1:w=z
    ·subst h1; simp [hz]
    ·simp [h1]) y]
   exact putAll_lookup hx
  ·have gen:∀ (xs:List Str) (vs:List AV) (e e':AEnv),(∀ w,e.lookup w=e'.lookup w)→∀ w,(putAll xs vs e).lookup w=(putAll xs vs e').lookup w:=by
    intro xs
    induction xs with
    | nil=>intro vs e e' he w; cases vs<;>exact he w
    | cons a r ih=>
     intro vs e e' he w
     cases vs with
     | nil=>exact he w
     | cons b q=>exact ih q _ _ (fun w=>by rw [lookup_put,lookup_put,he]) w
   rw [gen xs vs (putEnv z u (putEnv x v env)) (putEnv x v (putEnv z u env)) (fun w=>by
    rw [lookup_put,lookup_put,lookup_put,lookup_put]
    by_cases h1:w=z
    ·subst h1; simp [hz]
    ·simp [h1]) y]
   exact putAll_lookup hx
theorem putAll_snoc {x:Str} {v:AV}:∀ {xs:List Str} {vs:List AV} {env:AEnv},xs.length=vs.length→putAll (xs++[x]) (vs++[v]) env=putEnv x v (putAll xs vs env)
 | [],[],_,_=>rfl
 | _ :: xs,_ :: vs,env,h=>putAll_snoc (xs:=xs) (vs:=vs) (by simpa using h)
 | [],_ :: _,_,h=>by simp at h
 | _ :: _,[],_,h=>by simp at h
theorem putAll_reverse {y:Str}:∀ {xs:List Str} {vs:List AV} {env:AEnv},xs.Nodup→xs.length=vs.length→(putAll xs.reverse vs.reverse env).lookup y=(putAll xs vs env).lookup y
 | [],[],_,_,_=>rfl
 | [],_ :: _,_,_,h=>by simp at h
 | _ :: _,[],_,_,h=>by simp at h
 | x :: xs,v :: vs,env,hn,h=>by
  have hn:=List.nodup_cons.mp hn
  rw [List.reverse_cons,List.reverse_cons,putAll_snoc (by simpa using h),lookup_put]
  show _=(putAll xs vs (putEnv x v env)).lookup y
  rw [putAll_lookup hn.1,putAll_reverse hn.2 (by simpa using h)]
theorem store_names (hS:StOK F) {f:Str→Value→Sem Unit} (hf:∀ x v s (Q:Unit→Shared→Prop) (E:Value→Shared→Prop),wpAny (model prog w) A (storeName F.env x v) Q E s→wpAny (model prog w) A (f x v) Q E s) :
  ∀ (xs:List Str) (vs:List Value) (avs:List AV) (env:AEnv) (s:Shared),xs.length=avs.length→Inv prog w F env sl ρ s→(∀ x∈xs,canStore F.env.scope x=true)→HasL prog w (Vw F sl ρ s.heap) ρ avs vs →
   ∀ {Q:Unit→Shared→Prop} {E:Value→Shared→Prop},(∀ s',Inv prog w F (putAll xs avs env) sl ρ s'→Evo F sl ρ s sl ρ s'→Q () s')→wpAny (model prog w) A (assignInOrder (xs.map f) vs) Q E s
 | [],_,[],env,s,_,I,_,hv,Q,E,hQ=>by
  rw [show _=[] from hv]
  exact wpAny_assignInOrder_none (hQ s I (.refl ..))
 | [],_,_ :: _,_,_,h,_,_,_,_,_,_=>by simp at h
 | _ :: _,_,[],_,_,h,_,_,_,_,_,_=>by simp at h
 | x :: xs,_,av :: avs,env,s,h,I,hc,⟨v,r,e,h1,h2⟩,Q,E,hQ=>by
  subst e
  refine wpAny_assignInOrder_more (hf x v s _ _ (store_name hS I (hc x (by simp)) h1 fun s₁ I₁ ev₁=>?_))
  exact store_names hS hf xs r avs _ s₁ (by simpa using h) I₁ (fun y hy=>hc y (by simp [hy])) (ev₁.hasL h2) fun s' I' ev'=>hQ s' I' (ev₁.trans ev')
theorem assignEach_names {F:Frm}:∀ {ts:List Expr} {xs:List Str},namesOf ts=some xs→∃ ps:List (Str×Pos),ps.map (·.1)=xs∧(assignEach ts F.env)=ps.map fun p=>(false,assign (.Name p.1 p.2) F.env)
 | [],xs,h=>by
  have h:some []=some xs:=h
  injection h with h; subst h; exact ⟨[],rfl,rfl⟩
 | t :: ts,xs,h=>by
  cases t with
  | Name x p=>
   simp only [namesOf] at h
   split at h
   ·rename_i l e
    injection h with h; subst h
    obtain ⟨ps,h1,h2⟩:=assignEach_names (F:=F) e
    exact ⟨(x,p) :: ps,by simp [h1],by
     have:assignEach (.Name x p :: ts) F.env=(false,assign (.Name x p) F.env) :: assignEach ts F.env:=rfl
     rw [this,h2]; rfl⟩
   ·exact nomatch h
  | _=>exact nomatch h
theorem store_targets (hS:StOK F):∀ (ps:List (Str×Pos)) (vs:List Value) (avs:List AV) (env:AEnv) (s:Shared),ps.length=avs.length→Inv prog w F env sl ρ s→(∀ p∈ps,canStore F.env.scope p.1=true)→HasL prog w (Vw F sl ρ s.heap) ρ avs vs →
   ∀ {Q:Unit→Shared→Prop} {E:Value→Shared→Prop},(∀ s',Inv prog w F (putAll (ps.map (·.1)) avs env) sl ρ s'→Evo F sl ρ s sl ρ s'→Q () s')→wpAny (model prog w) A (assignInOrder (ps.map fun p=>assign (.Name p.1 p.2) F.env) vs) Q E s
 | [],_,[],env,s,_,I,_,hv,Q,E,hQ=>by
  rw [show _=[] from hv]
  exact wpAny_assignInOrder_none (hQ s I (.refl ..))
 | [],_,_ :: _,_,_,h,_,_,_,_,_,_=>by simp at h
 | _ :: _,_,[],_,_,h,_,_,_,_,_,_=>by simp at h
 | p :: ps,_,av :: avs,env,s,h,I,hc,⟨v,r,e,h1,h2⟩,Q,E,hQ=>by
  subst e
  refine wpAny_assignInOrder_more (assign_name hS I (hc p (by simp)) h1 fun s₁ I₁ ev₁=>?_)
  exact store_targets hS ps r avs _ s₁ (by simpa using h) I₁ (fun y hy=>hc y (by simp [hy])) (ev₁.hasL h2) fun s' I' ev'=>hQ s' I' (ev₁.trans ev')
theorem unpackItems_ok (hh:A.handled=none) (I:Inv prog w F env sl ρ s) {av:AV} {l:List AV} {v:Value} (hv:Has prog w (Vw F sl ρ s.heap) ρ av v) (ha:av=.tup l∨av=.lst l) {Q:List Value→Shared→Prop} {E:Value→Shared→Prop}
  (hQ:∀ vs s',Calm F sl ρ s s'→HasL prog w (Vw F sl ρ s'.heap) ρ l vs→Q vs s'):wpAny (model prog w) A (unpackItems v l.length none) Q E s:=by
 have fin:∀ vs h',Heap.ExtBut s.heap.objs.size s.heap h'→HasL prog w (Vw F sl ρ s.heap) ρ l vs→Q vs { s with heap:=h' }:=fun vs h' he hl=>by
  have c:Calm F sl ρ s { s with heap:=h' }:=⟨fun a o e=>he a o (Nat.ne_of_lt (Heap.lt_size e)) e,rfl,rfl,rfl⟩
  exact hQ vs _ c (c.evo.hasL hl)
 rcases ha with rfl | rfl
 ·obtain ⟨a,vs,n,rfl,hv,hl⟩:=hv
  have:=wpAny_unpackItems_tuple (prog:=prog) (w:=w) (A:=A) (E:=E) (Q:=Q) hh (⟨_,hv.1,rfl,n,rfl⟩:s.heap.IsTuple a vs.toArray) fun h' he=>by simpa using fin vs h' he hl
  rw [List.size_toArray,hl.length] at this
  exact this
 ·obtain ⟨a,vs,n,rfl,hv,hl⟩:=hv
  have:=kun_itemsOf (prog:=prog) (w:=w) (A:=A) (E:=E) (Q:=Q) hh (⟨_,hv.1,rfl,n,rfl⟩:s.heap.IsList a vs.toArray) fun h' he=>by simpa using fin vs h' he hl
  rw [List.size_toArray,hl.length] at this
  exact this
theorem bindP_ok (hS:StOK F) (hh:A.handled=none) (I:Inv prog w F env sl ρ s) {t:Expr} {av:AV} {v:Value} {env':AEnv} (h:bindP F.env.scope t av env=some env') (hv:Has prog w (Vw F sl ρ s.heap) ρ av v) {Q:Unit→Shared→Prop} {E:Value→Shared→Prop}
  (hQ:∀ s',Inv prog w F env' sl ρ s'→Evo F sl ρ s sl ρ s'→Q () s'):wpAny (model prog w) A (assign t F.env v) Q E s:=by
 unfold bindP at h
 split at h
 ·rename_i x p
  simp only [bindT] at h
  split at h
  ·rename_i hc
   injection h with h; subst h
   exact assign_name hS I hc hv hQ
  ·exact nomatch h
 ·rename_i ts k p
  have main:∀ l,(av=.tup l∨av=.lst l)→bindTs F.env.scope ts l env=some env'→wpAny (model prog w) A (assign (.Tuple ts k p) F.env v) Q E s:=fun l ha hb=>by
   obtain ⟨xs,h1,h2,h3,h4,h5⟩:=bindTs_names hb
   obtain ⟨ps,p1,p2⟩:=assignEach_names (F:=F) h1
   have hpl:ps.length=l.length:=by rw [← h2,← p1,List.length_map]
   rw [arm_assign_Tuple]
   refine wpAny_bind (wpAny_standAt ?_)
   unfold unpack
   rw [p2]
   have e1:(ps.map fun p=>(false,assign (.Name p.1 p.2) F.env)).findIdx? (·.1)=none:=by
    rw [List.findIdx?_eq_none_iff]
    intro x hx
    obtain ⟨q,_,rfl⟩:=List.mem_map.mp hx
    rfl
   rw [e1,List.length_map,hpl]
   refine wpAny_bind (wpAny_holding (unpackItems_ok hh I hv ha fun vs s₁ c hl=>?_))
   rw [List.map_map]
   refine store_targets hS ps vs l env s₁ hpl (I.calm c) (fun q hq=>h5 _ (by rw [← p1]; exact List.mem_map.mpr ⟨q,hq,rfl⟩)) hl fun s' I' ev'=>hQ s' ?_ (c.evo.trans ev')
   rw [h4,← p1]; exact I'
  split at h
  ·exact main _ (.inl rfl) h
  ·exact main _ (.inr rfl) h
  ·exact nomatch h
 ·exact nomatch h
end Mine
end
section
open PySem.SeqAt
namespace Mine
variable {prog:Program} {w:World} {EO:Value→Shared→Prop} {F:Frm} {env:AEnv} {sl:SL} {ρ:List Addr} {s:Shared} {A:Around} {d:Nat}
theorem putS_stored {V:Vis} {x:Str} {u:AV} {val:Value}:∀ {ks:List Str} {l:List AV} {vs:List Value},ks.Nodup→ks.length=vs.length→HasL prog w V ρ l vs→Has prog w V ρ u val →
  ∃ vs',stored (ks.zip vs) x val=(putS ks l x u).1.zip vs'∧(putS ks l x u).1.length=vs'.length∧HasL prog w V ρ (putS ks l x u).2 vs'
 | [],[],vs,_,hl,hh,hu=>by
  have:vs=[]:=List.length_eq_zero_iff.mp hl.symm
  subst this
  exact ⟨[val],rfl,rfl,val,[],rfl,hu,rfl⟩
 | [],_ :: _,vs,_,hl,hh,hu=>by
  have:vs=[]:=List.length_eq_zero_iff.mp hl.symm
  subst this
  exact ⟨[val],rfl,rfl,val,[],rfl,hu,rfl⟩
 | _ :: _,[],vs,_,hl,hh,hu=>by rw [show vs=[] from hh] at hl; simp at hl
 | k :: ks,y :: l,_,hn,hl,⟨v,r,e,h1,h2⟩,hu=>by
  subst e
  have hn:=List.nodup_cons.mp hn
  have hl:ks.length=r.length:=by simpa using hl
  have fresh:∀ {kvs:List (Str×Value)},(∀ p∈kvs,p.1≠k)→kvs.map (fun kv=>if kv.1=k then (kv.1,val) else kv)=kvs:=fun {kvs} h=>by
   induction kvs with
   | nil=>rfl
   | cons p t ih=>rw [List.map_cons,if_neg (h p (by simp)),ih fun q hq=>h q (by simp [hq])]
  simp only [putS]
  cases e:k==x with
  | true=>
   have:=eq_of_beq e
   subst this
   refine ⟨val :: r,?_,by simp [hl],val,r,rfl,hu,h2⟩
   unfold stored
   rw [List.zip_cons_cons,if_pos (by simp),List.map_cons,if_pos rfl,fresh fun p hp=>?_]
   ·rfl
   ·intro q
    have:=List.of_mem_zip hp
    exact hn.1 (q ▸ this.1)
  | false=>
   have hk:k≠x:=fun q=>by rw [q,beq_self_eq_true] at e; exact nomatch e
   obtain ⟨vs',e1,e2,e3⟩:=putS_stored (x:=x) hn.2 hl h2 hu
   refine ⟨v :: vs',?_,by simp [e2],v,vs',rfl,h1,e3⟩
   rw [List.zip_cons_cons,List.zip_cons_cons,← e1]
   unfold stored
   rw [List.any_cons,decide_eq_false hk,Bool.false_or,List.map_cons,if_neg hk]
   split<;>rfl
theorem putI_stored {V:Vis} {x:Int} {u:AV} {val:Value}:∀ {ks:List Int} {l:List AV} {vs:List Value},ks.Nodup→ks.length=vs.length→HasL prog w V ρ l vs→Has prog w V ρ u val →
  ∃ vs',stored (ks.zip vs) x val=(putI ks l x u).1.zip vs'∧(putI ks l x u).1.length=vs'.length∧HasL prog w V ρ (putI ks l x u).2 vs'
 | [],[],vs,_,hl,hh,hu=>by
  have:vs=[]:=List.length_eq_zero_iff.mp hl.symm
  subst this
  exact ⟨[val],rfl,rfl,val,[],rfl,hu,rfl⟩
 | [],_ :: _,vs,_,hl,hh,hu=>by
  have:vs=[]:=List.length_eq_zero_iff.mp hl.symm
  subst this
  exact ⟨[val],rfl,rfl,val,[],rfl,hu,rfl⟩
 | _ :: _,[],vs,_,hl,hh,hu=>by rw [show vs=[] from hh] at hl; simp at hl
 | k :: ks,y :: l,_,hn,hl,⟨v,r,e,h1,h2⟩,hu=>by
  subst e
  have hn:=List.nodup_cons.mp hn
  have hl:ks.length=r.length:=by simpa using hl
  have fresh:∀ {kvs:List (Int×Value)},(∀ p∈kvs,p.1≠k)→kvs.map (fun kv=>if kv.1=k then (kv.1,val) else kv)=kvs:=fun {kvs} h=>by
   induction kvs with
   | nil=>rfl
   | cons p t ih=>rw [List.map_cons,if_neg (h p (by simp)),ih fun q hq=>h q (by simp [hq])]
  simp only [putI]
  cases e:decide (k=x) with
  | true=>
   have:=of_decide_eq_true e
   subst this
   refine ⟨val :: r,?_,by simp [hl],val,r,rfl,hu,h2⟩
   unfold stored
   rw [List.zip_cons_cons,if_pos (by simp),List.map_cons,if_pos rfl,fresh fun p hp=>?_]
   ·rfl
   ·intro q
    have:=List.of_mem_zip hp
    exact hn.1 (q ▸ this.1)
  | false=>
   have hk:k≠x:=of_decide_eq_false e
   obtain ⟨vs',e1,e2,e3⟩:=putI_stored (x:=x) hn.2 hl h2 hu
   refine ⟨v :: vs',?_,by simp [e2],v,vs',rfl,h1,e3⟩
   rw [List.zip_cons_cons,List.zip_cons_cons,← e1]
   unfold stored
   rw [List.any_cons,decide_eq_false hk,Bool.false_or,List.map_cons,if_neg hk]
   split<;>rfl
theorem dict_nodup {K:Type} [DecidableEq K] {knd:KeyKind prog w K} {o:Obj} {ks:List K} {vs:List Value} (h:o.IsDictOf knd (ks.zip vs)) (hl:ks.length=vs.length):ks.Nodup:=by
 obtain ⟨_,_,_,_,_,_,h⟩:=h
 rwa [List.map_fst_zip (by omega)] at h
theorem hasL_set {V:Vis} {u:AV} {val:Value}:∀ {l:List AV} {vs:List Value} {k:Nat},HasL prog w V ρ l vs→Has prog w V ρ u val→HasL prog w V ρ (l.set k u) (vs.set k val)
 | [],_,_,h,_=>by rw [show _=[] from h]; rfl
 | _ :: _,_,0,⟨v,r,e,_,h⟩,hu=>by subst e; exact ⟨val,r,rfl,hu,h⟩
 | _ :: _,_,k+1,⟨v,r,e,h1,h⟩,hu=>by subst e; exact ⟨v,r.set k val,rfl,h1,hasL_set h hu⟩
theorem storeA_sound (I:Inv prog w F env sl ρ s) {o i v:AV} {ov iv vv:Value} {sl':SL} (h:storeA sl o i v=some sl') (ho:Has prog w (Vw F sl ρ s.heap) ρ o ov) (hi:Has prog w (Vw F sl ρ s.heap) ρ i iv) (hv:Has prog w (Vw F sl ρ s.heap) ρ v vv)
  {Q:Unit→Shared→Prop} {E:Value→Shared→Prop} (hQ:∀ s',Inv prog w F env sl' ρ s'→Evo F sl ρ s sl' ρ s'→Q () s'):wpAny (model prog w) A (setItem ov iv vv) Q E s:=by
 unfold storeA at h
 split at h
 ·rename_i n
  split at h
  ·rename_i l k e
   split at h
   ·rename_i h1 h2
    injection h with h; subst h
    have h1:=blt_lt h1
    have h2:=blt_lt h2
    obtain ⟨a,rfl,hr,us,m,g1,g2⟩:=I.slot ho e
    obtain ⟨t,rfl⟩:=hi
    have hl:=g2.length
    refine ki_setAt (k:=(k:Int)) (items:=us.toArray) (n:=m) g1 (by omega) (by omega) (by simp; omega) ?_
    let h':=s.heap.update a (Obj.mapSeq (·.setIfInBounds (k:Int).toNat vv))
    have hm:Obj.mapSeq (·.setIfInBounds (k:Int).toNat vv) (lstO us m)=lstO (us.set k vv) m:=by
     simp [Obj.mapSeq,lstO,List.setIfInBounds_toArray]
    have g3:h'.get? a=some (lstO (us.set k vv) m):=by
     have:=Heap.get?_update_self (Obj.mapSeq (·.setIfInBounds (k:Int).toNat vv)) g1 (by rw [hm]; rfl)
     rw [hm] at this; exact this
    have kp:∀ b o,b≠a→s.heap.get? b=some o→h'.get? b=some o:=fun b o hb e=>(Heap.get?_update_other _ _ (Ne.symm hb)).trans e
    have hvs:=vis_store I e hr kp
    obtain ⟨I',ev⟩:=I.store (s':={ s with heap:=h' }) (c':=.lst (l.set k v)) e hr kp rfl rfl rfl ⟨us.set k vv,m,g3,hasL_set (HasL.mono prog w hvs (fun _ _ e=>e) _ _ g2) (Has.mono prog w hvs (fun _ _ e=>e) _ _ hv)⟩
    exact hQ _ I' ev
   ·exact nomatch h
  ·rename_i ks l x e
   split at h
   ·rename_i hz
    injection h with h; subst h
    have hz:=blt_lt hz
    obtain ⟨a,rfl,hr,ob,us,g1,g2,g3,g4⟩:=I.slot ho e
    obtain ⟨t,rfl⟩:=hi
    have hd:s.heap.DictOf (PySem.strKind prog w) a (ks.zip us):=Heap.dictOf_iff.mpr ⟨ob,g1,g2⟩
    refine wpAny_setItem_pairs (knd:=PySem.strKind prog w) (strKind_is prog w x t) hd (fun h' hd' hsb=>?_) (by rw [List.length_zip,← g3,Nat.min_self]; exact size_line (by omega))
    have kp:=keep_sameBut hsb
    have hvs:=vis_store I e hr kp
    obtain ⟨vs',e1,e2,e3⟩:=putS_stored (x:=x) (dict_nodup g2 g3) g3 (HasL.mono prog w hvs (fun _ _ e=>e) _ _ g4) (Has.mono prog w hvs (fun _ _ e=>e) _ _ hv)
    rw [e1] at hd'
    obtain ⟨I',ev⟩:=I.store (s':={ s with heap:=h',toks:=s.toks+1 }) e hr kp rfl rfl rfl (own_dS hd' e2 e3)
    exact hQ _ I' ev
   ·exact nomatch h
  ·rename_i ks l x e
   split at h
   ·rename_i hz
    injection h with h; subst h
    have hz:=blt_lt hz
    obtain ⟨a,rfl,hr,ob,us,g1,g2,g3,g4⟩:=I.slot ho e
    obtain ⟨t,rfl⟩:=hi
    have hd:s.heap.DictOf (intKind prog w) a (ks.zip us):=Heap.dictOf_iff.mpr ⟨ob,g1,g2⟩
    refine wpAny_setItem_pairs (knd:=intKind prog w) (intKind_is prog w x t) hd (fun h' hd' hsb=>?_) (by rw [List.length_zip,← g3,Nat.min_self]; exact size_line (by omega))
    have kp:=keep_sameBut hsb
    have hvs:=vis_store I e hr kp
    obtain ⟨vs',e1,e2,e3⟩:=putI_stored (x:=x) (dict_nodup g2 g3) g3 (HasL.mono prog w hvs (fun _ _ e=>e) _ _ g4) (Has.mono prog w hvs (fun _ _ e=>e) _ _ hv)
    rw [e1] at hd'
    obtain ⟨I',ev⟩:=I.store (s':={ s with heap:=h',toks:=s.toks+1 }) e hr kp rfl rfl rfl (own_dI hd' e2 e3)
    exact hQ _ I' ev
   ·exact nomatch h
  ·rename_i x e
   injection h with h; subst h
   obtain ⟨a,rfl,hr,ob,us,g1,g2,g3,g4⟩:=I.slot ho e
   obtain ⟨t,rfl⟩:=hi
   rw [show us=[] from g4] at g2
   have hd:s.heap.DictOf (intKind prog w) a []:=Heap.dictOf_iff.mpr ⟨ob,g1,isDictOf_nil g2⟩
   refine wpAny_setItem_pairs (knd:=intKind prog w) (intKind_is prog w x t) hd (fun h' hd' hsb=>?_) (Nat.zero_le _)
   have kp:=keep_sameBut hsb
   have hvs:=vis_store I e hr kp
   obtain ⟨I',ev⟩:=I.store (s':={ s with heap:=h',toks:=s.toks+1 }) e hr kp rfl rfl rfl (own_dI (ks:=[x]) (vs:=[vv]) (l:=[v]) hd' rfl ⟨vv,[],rfl,Has.mono prog w hvs (fun _ _ e=>e) _ _ hv,rfl⟩)
   exact hQ _ I' ev
  ·exact nomatch h
 ·exact nomatch h
end Mine
end
section
open PySem.SeqAt
namespace Mine
variable {prog:Program} {w:World} {EO:Value→Shared→Prop} {F:Frm} {env:AEnv} {sl:SL} {ρ:List Addr} {s:Shared} {A:Around} {d:Nat}
def FlHas (prog:Program) (w:World) (V:Vis) (ρ:List Addr):Fl→Flow→Prop
 | .nxt,f=>f=.next
 | .ret av,f=>∃ v,f=.ret v∧Has prog w V ρ av v
section
variable (prog:Program) (w:World) (EO:Value→Shared→Prop)
def QS (F:Frm) (sl:SL) (ρ:List Addr) (s:Shared) (P:Fl×AEnv×SL→Prop) (f:Flow) (s':Shared):Prop:=
 ∃ fl env' sl' ρ',Inv prog w F env' sl' ρ' s'∧Evo F sl ρ s sl' ρ' s'∧FlHas prog w (Vw F sl' ρ' s'.heap) ρ' fl f∧P (fl,env',sl')
def TriS (F:Frm) (sl:SL) (ρ:List Addr) (s:Shared) (A:Around) (x:RS) (t:Sem Flow):Prop:=
 ∀ (P:Fl×AEnv×SL→Prop) (X:Prop) (Q:Flow→Shared→Prop) (E:Value→Shared→Prop),x.Holds P X→(∀ f s',QS prog w F sl ρ s P f s'→Q f s')→OnExc prog w EO F sl ρ s X E→wpAny (model prog w) A t Q E s
def OkS (F:Frm) (A:Around) (es:Es):Prop:=∀ st env sl ρ s,Inv prog w F env sl ρ s→TriS prog w EO F sl ρ s A (es env st sl) (execs st F.env)
def Alike (F F':Frm):Prop:=F'.env=F.env∧F'.base=F.base∧F'.fr=F.fr
structure ExcOK (F:Frm) (C:Ctx) (d:Nat) (A:Around):Prop where
 raise:C.raise=true→∀ n F',Alike F F'→∀ env sl ρ s,Inv prog w F' env sl ρ s→∀ (args:List Expr) (p cpos pos:Pos) (X:Prop) (Q:Flow→Shared→Prop) (E:Value→Shared→Prop),noStar args=true→args.length=2→(evL (evalE C d n F'.env.scope env) args sl).Holds (fun _=>X) X→OnExc prog w EO F' sl ρ s X E →
  wpAny (model prog w) A (exec (.Raise (some (.Call (.Name "AssemblyFault" p) args [] cpos)) none pos) F'.env) Q E s
 through:∀ F',Alike F F'→∀ sl ρ s₀ s,Past F' sl ρ s₀ s→∀ e,(∀ a,ExcThing e s.heap a→s₀.heap.get? a=none)→EO e s→∀ (E:Value→Shared→Prop),(∀ s',Past F' sl ρ s₀ s'→(∀ a,ExcThing e s'.heap a→s₀.heap.get? a=none)→EO e s'→E e s') →
  notedBy (model prog w) A F'.env (fun e s'=>cameBackBy (model prog w) A F'.env E e s') e s
end
theorem Alike.refl (F:Frm):Alike F F:=⟨rfl,rfl,rfl⟩
theorem Alike.hide {F':Frm} (h:Alike F F') (d:Addr):Alike F (F'.hide d):=h
theorem QS.sub {P P':Fl×AEnv×SL→Prop} {f:Flow} {s':Shared} (h:QS prog w F sl ρ s P f s') (hp:∀ q,P q→P' q):QS prog w F sl ρ s P' f s':=by
 obtain ⟨fl,e,sl',ρ',h1,h2,h3,h4⟩:=h
 exact ⟨fl,e,sl',ρ',h1,h2,h3,hp _ h4⟩
theorem QS.after {sl₁:SL} {ρ₁:List Addr} {s₁:Shared} {P:Fl×AEnv×SL→Prop} {f:Flow} {s':Shared} (x:Evo F sl ρ s sl₁ ρ₁ s₁) (h:QS prog w F sl₁ ρ₁ s₁ P f s'):QS prog w F sl ρ s P f s':=by
 obtain ⟨fl,e,sl',ρ',h1,h2,h3,h4⟩:=h
 exact ⟨fl,e,sl',ρ',h1,x.trans h2,h3,h4⟩
theorem swapsWith_plain {value:Expr} {t:Option Expr} {l:Nat} {env:Env} (h:notComp value=true):swapsWith value t l env=pure false:=by
 cases value<;>first | rfl | exact nomatch h
theorem assign_name_ok (hS:StOK F) {ev:Expr→SL→RE} (hev:Ok prog w EO F env A ev) (hevH:∀ d,Ok prog w EO (F.hide d) env A ev) (I:Inv prog w F env sl ρ s) {x:Str} {px pos:Pos} {value:Expr} (hc:canStore F.env.scope x=true) (hn:notComp value=true) :
  TriS prog w EO F sl ρ s A ((evOwn ev value sl).bind fun p=>.ret (.nxt,putEnv x p.2 env,p.1.getD sl)) (exec (.Assign [.Name x px] value pos) F.env):=fun P X Q E h hQ hE=>by
 refine wpAny_Assign_Name ?_ (swapsWith_plain hn)
 refine evOwn_ok hev hevH I value _ X _ _ (R.holds_bind h) (fun v s₁ h₁=>?_) hE
 obtain ⟨o,av,ρ₁,I₁,hv,ev₁,hp⟩:=h₁
 refine store_name hS I₁ hc hv fun s' I' ev'=>hQ _ _ ⟨.nxt,_,_,ρ₁,I',ev₁.trans ev',rfl,hp⟩
theorem eval_Tuple_ok {ev:Expr→SL→RE} (hev:Ok prog w EO F env A ev) (hevH:∀ d,Ok prog w EO (F.hide d) env A ev) (I:Inv prog w F env sl ρ s) {vs:List Expr} {k:Nat} {pos:Pos} {P:Option SL×List AV→Prop} {X:Prop} {Q E:Value→Shared→Prop} (h:(evOwns ev vs sl).Holds P X) (hz:vs.length<1000)
  (hQ:∀ v s',(∃ o l ρ',Inv prog w F env (o.getD sl) ρ' s'∧Has prog w (Vw F (o.getD sl) ρ' s'.heap) ρ' (.tup l) v∧Evo F sl ρ s (o.getD sl) ρ' s'∧P (o,l))→Q v s') (hE:OnExc prog w EO F sl ρ s X E) :
  wpAny (model prog w) A (eval (.Tuple vs k pos) F.env) Q E s:=by
 rw [arm_eval_Tuple]
 have len:∀ (es:List Expr) (sl:SL) (P:Option SL×List AV→Prop),(evOwns ev es sl).Holds P X→(evOwns ev es sl).Holds (fun q=>P q∧q.2.length=es.length) X:=by
  intro es
  induction es with
  | nil=>intro sl P h; exact ⟨h,rfl⟩
  | cons e r ih=>
   intro sl P h
   have main:(∀ x p,e≠.Starred x p)→(evOwns ev (e :: r) sl).Holds (fun q=>P q∧q.2.length=(e :: r).length) X:=fun hne=>by
    have e1:evOwns ev (e :: r) sl=seqL (evOwn ev e sl) sl fun v sl=>(evOwns ev r sl).bind fun q=>.ret (q.1,v :: q.2):=by
     cases e<;>first | rfl | exact absurd rfl (hne _ _)
    rw [e1] at h ⊢
    unfold seqL at h ⊢
    refine R.holds_bind' (R.holds_mono (fun q hq=>?_) id (R.holds_bind h))
    obtain ⟨o,v⟩:=q
    cases o with
    | none=>
     refine R.holds_bind' (R.holds_mono (fun q hq=>?_) id (ih sl _ (R.holds_bind hq)))
     exact ⟨hq.1,by simp [hq.2]⟩
    | some sl₁=>
     refine R.holds_bind' (R.holds_bind' (R.holds_mono (fun q hq=>?_) id (ih sl₁ _ (R.holds_bind (R.holds_bind hq)))))
     exact ⟨hq.1,by simp [hq.2]⟩
   cases e with
   | Starred x p=>exact h.elim
   | _=>exact main (fun x p h=>nomatch h)
 refine wpAny_bind (wpAny_standAt (wpAny_bind (evOwns_ok hev hevH pos vs sl ρ s I _ X _ _ (len vs sl _ h) (fun us s₁ h₁=>?_) hE)))
 obtain ⟨o,l,ρ₁,I₁,hl,ev₁,hp,hll⟩:=h₁
 have hn:=hl.length
 have hll:l.length=vs.length:=hll
 refine wpAny_newTuple (hQ _ _ ⟨o,l,ρ₁,I₁.calm (.push _ _),⟨_,us,0,rfl,vis_new I₁ (get_size _) (Heap.get?_push_size _ rfl),(Calm.push (F:=F) (sl:=o.getD sl) (ρ:=ρ₁) _ _).evo.hasL hl⟩,ev₁.trans (Calm.push _ _).evo,hp⟩) (size_line (by omega))
theorem filterMap_all {α β:Type} {g:α→Option β}:∀ {l:List α},(l.filterMap g).length=l.length→∀ a∈l,(g a).isSome=true
 | [],_,_,h=>nomatch h
 | x :: l,h,a,ha=>by
  have le:=List.length_filterMap_le g l
  cases e:g x with
  | none=>
   rw [List.filterMap_cons_none e] at h
   simp at h; omega
  | some b=>
   rw [List.filterMap_cons_some e] at h
   rcases List.mem_cons.mp ha with q | q
   ·subst q; rw [e]; rfl
   ·exact filterMap_all (by simpa using h) a q
def swapG (env:Env) (ts:List Expr) (t:Expr):Option Str:=match t with
 | .Name id pos=>if env.kindOf id==some .local&&pos.line==(ts.head?.map (fun x:Expr=>x.pos.line)).getD 0 then some id else none
 | _=>none
theorem swapped_cases {ts vs:List Expr} {k k':Nat} {p p':Pos} {env:Env} (hns:noStar vs=true) (hc:vs.all (constantsAlone 8)=false) :
  swappedStores [.Tuple ts k p] (.Tuple vs k' p') env=pure none∨∃ names,swappedStores [.Tuple ts k p] (.Tuple vs k' p') env=pure (some names)∧namesOf ts=some names:=by
 have hst:(vs.any fun | .Starred ..=>true | _=>false)=false:=by
  have gen:∀ r,noStar r=true→(r.any fun | .Starred ..=>true | _=>false)=false:=by
   intro r
   induction r with
   | nil=>intro _; rfl
   | cons e r ih=>
    intro h
    obtain ⟨h1,h2⟩:=noStar_cons h
    rw [List.any_cons,ih h2]
    cases e<;>first | rfl | exact absurd rfl (h1 _ _)
  exact gen vs hns
 have e:swappedStores [.Tuple ts k p] (.Tuple vs k' p') env=(if !(ts.length==2||ts.length==3)||vs.length != ts.length||env.blockKind != .function then pure none
  else if vs.any fun | .Starred ..=>true | _=>false then pure none
  else if (ts.filterMap (swapG env ts)).length != ts.length||(ts.filterMap (swapG env ts)).eraseDups.length != (ts.filterMap (swapG env ts)).length then pure none
  else if vs.all (foldedForSure 8) then pure none
  else if vs.all (constantsAlone 8) then unsupported "assign.tuple-of-constant-expressions:order-of-the-stores"
  else pure (some (ts.filterMap (swapG env ts)))):=by
  unfold swappedStores
  dsimp only [pure_bind]
  by_cases c1:(!(ts.length==2||ts.length==3)||vs.length != ts.length||env.blockKind != .function)=true
  ·rw [if_pos c1,if_pos c1]
  rw [if_neg c1,if_neg c1]
  rfl
 rw [e,hst,hc]
 split
 ·exact .inl rfl
 ·rw [if_neg (by decide)]
  split
  ·exact .inl rfl
  ·rename_i hl
   split
   ·exact .inl rfl
   ·rw [if_neg (by decide)]
    refine .inr ⟨_,rfl,?_⟩
    simp only [Bool.or_eq_true,bne_iff_ne,ne_eq,not_or,Decidable.not_not] at hl
    have all:=filterMap_all hl.1
    clear hl e hc hst hns
    have gen:∀ l:List Expr,(∀ a∈l,(swapG env ts a).isSome=true)→namesOf l=some (l.filterMap (swapG env ts)):=by
     intro l
     induction l with
     | nil=>intro _; rfl
     | cons t r ih=>
      intro h
      have ht:=h t (by simp)
      cases t with
      | Name x px=>
       have:swapG env ts (.Name x px)=some x:=by
        unfold swapG at ht ⊢
        dsimp only at ht ⊢
        split at ht
        ·rename_i q; rw [if_pos q]
        ·exact nomatch ht
       rw [List.filterMap_cons_some this]
       simp only [namesOf,ih fun a ha=>h a (by simp [ha])]
      | _=>exact nomatch ht
    exact gen ts all
end Mine
end
section
open PySem.SeqAt
namespace Mine
variable {prog:Program} {w:World} {EO:Value→Shared→Prop} {F:Frm} {env:AEnv} {sl:SL} {ρ:List Addr} {s:Shared} {A:Around} {d:Nat}
theorem swapOk_and {ts vs:List Expr} (h:swapOk ts vs=true):∃ xs,namesOf ts=some xs∧xs.Nodup∧noStar vs=true∧vs.all (constantsAlone 8)=false:=by
 unfold swapOk at h
 split at h
 ·rename_i xs e
  simp only [Bool.and_eq_true,decide_eq_true_eq,Bool.not_eq_true'] at h
  exact ⟨xs,e,h.1.1,h.1.2,h.2⟩
 ·exact nomatch h
theorem namesOf_length:∀ {ts:List Expr} {xs:List Str},namesOf ts=some xs→xs.length=ts.length
 | [],xs,h=>by
  have h:some []=some xs:=h
  injection h with h; subst h; rfl
 | t :: ts,xs,h=>by
  cases t with
  | Name x p=>
   simp only [namesOf] at h
   split at h
   ·rename_i l e
    injection h with h; subst h
    simp [namesOf_length e]
   ·exact nomatch h
  | _=>exact nomatch h
theorem assign_swap_ok (hS:StOK F) (hh:A.handled=none) {ev:Expr→SL→RE} (hev:Ok prog w EO F env A ev) (hevH:∀ d,Ok prog w EO (F.hide d) env A ev) (I:Inv prog w F env sl ρ s) {ts vs:List Expr} {k k':Nat} {p p' pos:Pos} (hw:swapOk ts vs=true) (hz:vs.length<1000) :
  TriS prog w EO F sl ρ s A ((evOwns ev vs sl).bind fun p=>(match bindTs F.env.scope ts p.2 env with
   | some env'=>.ret (.nxt,env',p.1.getD sl)
   | none=>.fail)) (exec (.Assign [.Tuple ts k p] (.Tuple vs k' p') pos) F.env):=fun P X Q E h hQ hE=>by
 obtain ⟨xs,x1,x2,x3,x4⟩:=swapOk_and hw
 have fin:∀ (v:Value) (s₁:Shared),(∃ o l ρ',Inv prog w F env (Option.getD o sl) ρ' s₁∧Has prog w (Vw F (Option.getD o sl) ρ' s₁.heap) ρ' (.tup l) v∧Evo F sl ρ s (Option.getD o sl) ρ' s₁∧(match bindTs F.env.scope ts l env with
   | some env'=>.ret (.nxt,env',Option.getD o sl)
   | none=>.fail:RS).Holds P X)→∃ o l ρ' env',Inv prog w F env (Option.getD o sl) ρ' s₁∧Has prog w (Vw F (Option.getD o sl) ρ' s₁.heap) ρ' (.tup l) v∧Evo F sl ρ s (Option.getD o sl) ρ' s₁∧bindTs F.env.scope ts l env=some env'∧P (.nxt,env',Option.getD o sl):=fun v s₁ ⟨o,l,ρ',h1,h2,h3,h4⟩=>by
  split at h4
  ·rename_i env' e
   exact ⟨o,l,ρ',env',h1,h2,h3,e,h4⟩
  ·exact h4.elim
 rcases swapped_cases (ts:=ts) (k:=k) (k':=k') (p:=p) (p':=p') (env:=F.env) x3 x4 with q | ⟨names,q,hn⟩
 ·refine PyProof.Rows.Assign_Tuple ?_ rfl q
  refine eval_Tuple_ok hev hevH I (R.holds_bind h) hz (fun v s₁ h₁=>?_) hE
  obtain ⟨o,l,ρ₁,env',I₁,hv,ev₁,hb,hp⟩:=fin v s₁ h₁
  exact bindP_ok (t:=.Tuple ts k p) (av:=.tup l) hS hh I₁ hb hv fun s' I' ev'=>hQ _ _ ⟨.nxt,env',_,ρ₁,I',ev₁.trans ev',rfl,hp⟩
 ·rw [x1] at hn
  injection hn with hn
  subst hn
  refine PyProof.Rows.Assign_Tuple_swapped ?_ rfl q
  refine eval_Tuple_ok hev hevH I (R.holds_bind h) hz (fun v s₁ h₁=>?_) hE
  obtain ⟨o,l,ρ₁,env',I₁,hv,ev₁,hb,hp⟩:=fin v s₁ h₁
  obtain ⟨xs',b1,b2,b3,b4,b5⟩:=bindTs_names hb
  rw [x1] at b1
  injection b1 with b1
  subst b1
  rw [b2]
  refine unpackItems_ok hh I₁ hv (.inl rfl) fun us s₂ c hl=>?_
  have hrev:∀ {l:List AV} {us:List Value} {V:Vis},HasL prog w V ρ₁ l us→HasL prog w V ρ₁ l.reverse us.reverse:=by
   intro l
   induction l with
   | nil=>intro us V h; rw [show us=[] from h]; rfl
   | cons x l ih=>
    intro us V ⟨v,r,e,h1,h2⟩
    subst e
    rw [List.reverse_cons,List.reverse_cons]
    exact (ih h2).append ⟨v,[],rfl,h1,rfl⟩
  refine store_names hS (f:=fun n=>bindName F.env n) (fun x v s Q E h=>PyProof.Rows.bindName_ h) xs.reverse us.reverse l.reverse env s₂ (by simp [b2]) (I₁.calm c) (fun x hx=>b5 x (by simpa using hx)) (hrev hl) fun s' I' ev'=>hQ _ _ ⟨.nxt,env',_,ρ₁,?_,ev₁.trans (c.evo.trans ev'),rfl,hp⟩
  subst b4
  exact I'.weaken fun x av e=>by rw [putAll_reverse x2 b2]; exact e
theorem swapped_plain {ts:List Expr} {k:Nat} {p:Pos} {value:Expr} {env:Env} (h:∀ vs k' p',value=.Tuple vs k' p'→False):swappedStores [.Tuple ts k p] value env=pure none:=by
 cases value with
 | Tuple vs k' p'=>exact (h _ _ _ rfl).elim
 | _=>rfl
theorem swapsSole_plain {t value:Expr} {l:Nat} {env:Env} (h:notComp value=true):swapsWithSole [t] value l env=pure false:=by
 have e:swapsWithSole [t] value l env=swapsWith value (some t) l env:=by rfl
 rw [e]; exact swapsWith_plain h
theorem assignA_ok (hS:StOK F) (hh:A.handled=none) {ev:Expr→SL→RE} (hev:Ok prog w EO F env A ev) (hevH:∀ d,Ok prog w EO (F.hide d) env A ev) (I:Inv prog w F env sl ρ s) {t value:Expr} {pos:Pos} :
  TriS prog w EO F sl ρ s A (assignA F.env.scope ev t value env sl) (exec (.Assign [t] value pos) F.env):=by
 unfold assignA
 split
 ·intro P X Q E h hQ hE
  obtain ⟨hz,h⟩:=guardB_holds h
  simp only [Bool.and_eq_true] at hz
  exact assign_name_ok hS hev hevH I hz.1 hz.2 P X Q E h hQ hE
 ·split
  ·intro P X Q E h hQ hE
   obtain ⟨hz,h⟩:=guardB_holds h
   simp only [Bool.and_eq_true] at hz
   exact assign_swap_ok hS hh hev hevH I hz.1 (blt_lt hz.2) P X Q E h hQ hE
  ·rename_i ts k p _ hne
   intro P X Q E h hQ hE
   obtain ⟨hz,h⟩:=guardB_holds h
   refine PyProof.Rows.Assign_Tuple ?_ (swapsSole_plain hz) (swapped_plain hne)
   refine hev value sl ρ s I _ X _ _ (R.holds_bind h) (fun v s₁ h₁=>?_) hE
   obtain ⟨o,av,ρ₁,I₁,hv,ev₁,hp⟩:=h₁
   dsimp only at hp
   split at hp
   ·rename_i env' e
    exact bindP_ok (t:=.Tuple ts k p) hS hh I₁ e hv fun s' I' ev'=>hQ _ _ ⟨.nxt,env',_,ρ₁,I',ev₁.trans ev',rfl,hp⟩
   ·exact hp.elim
 ·intro P X Q E h hQ hE
  obtain ⟨hz,h⟩:=guardB_holds h
  refine wpAny_Assign_Subscript ?_ (swapsWith_plain hz)
  refine hev value sl ρ s I _ X _ _ (R.holds_bind h) (fun v s₁ h₁=>?_) hE
  obtain ⟨o₁,av,ρ₁,I₁,hv,ev₁,hp⟩:=h₁
  refine hev _ _ ρ₁ s₁ I₁ _ X _ _ (R.holds_bind hp) (fun ov s₂ h₂=>?_) (hE.after ev₁)
  obtain ⟨o₂,ao,ρ₂,I₂,ho,ev₂,hp⟩:=h₂
  refine hev _ _ ρ₂ s₂ I₂ _ X _ _ (R.holds_bind hp) (fun iv s₃ h₃=>?_) ((hE.after ev₁).after ev₂)
  obtain ⟨o₃,ai,ρ₃,I₃,hi,ev₃,hp⟩:=h₃
  dsimp only at hp
  split at hp
  ·rename_i sl' e
   exact storeA_sound I₃ e (ev₃.has ho) hi (ev₃.has (ev₂.has hv)) fun s' I' ev'=>hQ _ _ ⟨.nxt,env,sl',ρ₃,I',((ev₁.trans ev₂).trans ev₃).trans ev',rfl,hp⟩
  ·exact hp.elim
 ·exact fun P X Q E h _ _=>h.elim
theorem Inv.retype (I:Inv prog w F env sl ρ s) {x:Str} {u u':AV} (h:env.lookup x=some u) (hh:∀ v,Has prog w (Vw F sl ρ s.heap) ρ u v→Has prog w (Vw F sl ρ s.heap) ρ u' v):Inv prog w F (putEnv x u' env) sl ρ s:=by
 refine ⟨I.base,I.sm,I.low,?_,fun y av e k=>?_,fun y av e=>?_,I.cells,I.len,I.slots,I.apart,I.ownNe,I.locX,I.frs⟩
 ·obtain ⟨m,h1,h2⟩:=I.ns
  refine ⟨m,h1,fun y av e k=>?_⟩
  rw [lookup_put] at e
  by_cases q:y=x
  ·subst q
   rw [if_pos rfl] at e
   injection e with e; subst e
   obtain ⟨v,e1,e2⟩:=h2 y u h k
   exact ⟨v,e1,hh v e2⟩
  ·rw [if_neg q] at e
   exact h2 y av e k
 ·rw [lookup_put] at e
  by_cases q:y=x
  ·subst q
   rw [if_pos rfl] at e
   injection e with e; subst e
   obtain ⟨c,v,e1,e2,e3⟩:=I.cell y u h k
   exact ⟨c,v,e1,e2,hh v e3⟩
  ·rw [if_neg q] at e
   exact I.cell y av e k
 ·rw [lookup_put] at e
  by_cases q:y=x
  ·subst q; exact I.kind y u h
  ·rw [if_neg q] at e
   exact I.kind y av e
theorem if_ok (hS:StOK F) {ev:Expr→SL→RE} (hev:Ok prog w EO F env A ev) (hB:OkB prog w EO F env A ev) (hevH:∀ d,Ok prog w EO (F.hide d) env A ev) {es:Es} (hes:OkS prog w EO F A es) (I:Inv prog w F env sl ρ s) {test:Expr} {body orelse:List Stmt} {pos:Pos} :
  TriS prog w EO F sl ρ s A ((ev test sl).bind fun p=>(match p.2 with
  | .bool true=>es env body (p.1.getD sl)
  | .bool false=>es env orelse (p.1.getD sl)
  | .sb b=>(match joinS F.env.scope ev env body orelse b (p.1.getD sl) with
   | some r=>r
   | none=>.ite b (es env body (p.1.getD sl)) (es env orelse (p.1.getD sl)))
  | _=>.fail)) (exec (.If test body orelse pos) F.env):=fun P X Q E h hQ hE=>by
 refine wpAny_If ?_
 have h:=R.holds_bind h
 let K:Option SL×AV→RS:=fun p=>match p.2 with
  | .bool true=>es env body (p.1.getD sl)
  | .bool false=>es env orelse (p.1.getD sl)
  | .sb b=>(match joinS F.env.scope ev env body orelse b (p.1.getD sl) with
   | some r=>r
   | none=>.ite b (es env body (p.1.getD sl)) (es env orelse (p.1.getD sl)))
  | _=>.fail
 have h':(ev test sl).Holds (fun p=>(boolOf p.2).isSome=true∧(K p).Holds P X) X:=R.holds_mono (fun p hp=>⟨by
  obtain ⟨o,v⟩:=p
  cases v<;>first | rfl | exact hp.elim,hp⟩) id h
 refine hB test sl ρ s I (fun p=>(K p).Holds P X) X _ _ h' (fun b s₁ h₁=>?_) hE
 ·obtain ⟨o,av,ρ₁,I₁,hv,ev₁,hp⟩:=h₁
  have tri:∀ (st:List Stmt),(es env st (o.getD sl)).Holds P X→wpAny (model prog w) A (execs st F.env) Q E s₁:=fun st hst=>
   hes st env _ ρ₁ s₁ I₁ P X Q E hst (fun f s' hq=>hQ f s' (QS.after ev₁ hq)) (hE.after ev₁)
  cases av with
  | bool c=>
   have hb:Value.bool b=.bool c:=hv
   injection hb with hb; subst hb
   cases b with
   | true=>exact tri body hp
   | false=>exact tri orelse hp
  | sb c=>
   have hb:Value.bool b=.bool c:=hv
   injection hb with hb; subst hb
   have hp:(match joinS F.env.scope ev env body orelse b (o.getD sl) with
    | some r=>r
    | none=>.ite b (es env body (o.getD sl)) (es env orelse (o.getD sl)):RS).Holds P X:=hp
   split at hp
   ·rename_i r hj
    unfold joinS at hj
    split at hj
    ·rename_i x px e pos' _
     split at hj
     ·rename_i q v u hd hc hpo hl
      injection hj with hj; subst hj
      obtain ⟨hq,hp⟩:=hp
      simp only [Bool.and_eq_true] at hc
      cases b with
      | true=>
       refine wpAny_execs_cons (wpAny_Assign_Name (hev e _ ρ₁ s₁ I₁ (fun q=>q=(none,v)) False _ E (pureOf_holds hpo (hq rfl)) (fun val s₂ h₂=>?_) (fun hX=>hX.elim)) (swapsWith_plain hc.2))
       obtain ⟨o₂,av₂,ρ₂,I₂,hv₂,ev₂,e₂⟩:=h₂
       injection e₂ with e₂ e₃
       subst e₂ e₃
       exact store_name hS I₂ hc.1 (joinA_has (b:=true) (y:=u) (fun _=>hv₂) (fun e=>nomatch e)) fun s₃ I₃ ev₃=>wpAny_execs_nil (hQ _ _ ⟨.nxt,_,_,ρ₂,I₃,(ev₁.trans ev₂).trans ev₃,rfl,hp⟩)
      | false=>
       exact wpAny_execs_nil (hQ _ _ ⟨.nxt,_,_,ρ₁,I₁.retype hl (fun v' hh=>joinA_has (b:=false) (fun e=>nomatch e) (fun _=>hh)),ev₁,rfl,hp⟩)
     ·exact nomatch hj
    ·exact nomatch hj
   ·cases b with
    | true=>exact tri body (hp.1 rfl)
    | false=>exact tri orelse (hp.2 rfl)
  | _=>exact hp.elim
end Mine
end
section
open PySem.SeqAt
namespace Mine
variable {prog:Program} {w:World} {EO:Value→Shared→Prop} {F:Frm} {env:AEnv} {sl:SL} {ρ:List Addr} {s:Shared} {A:Around} {d:Nat}
theorem letOwn_ok {t:Expr} {J:Addr} {v:Value} (h:∃ o,s.heap.get? J=some o∧Tame o) {Q:Unit→Shared→Prop} {E:Value→Shared→Prop} (hQ:Q () s):wpAny (model prog w) A (letOwnedTupleGo t (.ref J) v) Q E s:=by
 obtain ⟨o,ho,ht⟩:=h
 have go:∀ a:Addr,wpAny (model prog w) A (do
   let o ← load J
   match o.cls,o.data with
   | .type n,.fields vs=>
    if ["enumerate","zip","dict_itemiterator","dict_reverseitemiterator","odict_iterator","itertools.zip_longest","itertools.pairwise"].contains n&&vs[0]?==some (rawInt a) then
     rule "for.unpacks-the-owned-tuple"
     updateField J 0 .none
   | _,_=>pure ()) Q E s:=fun a=>by
  refine wpAny_bind (wpAny_load ho ?_)
  split
  ·rename_i n vs hc hd
   rw [if_neg (by rw [ht n hc]; simp)]
   exact wpAny_pure hQ
  ·exact wpAny_pure hQ
 unfold letOwnedTupleGo
 split
 ·cases v<;>first | exact go _ | exact wpAny_pure hQ
 ·cases v<;>first | exact go _ | exact wpAny_pure hQ
 ·exact wpAny_pure hQ
theorem Grow.vis_hide {J:Addr} {s':Shared} (g:Grow s s') (hJ:s.heap.get? J=none) (b:Addr) (o:Obj) (h:Vw F sl ρ s.heap b o):Vw (F.hide J) sl ρ s'.heap b o:=
 ⟨g.keep b o h.1,fun q=>(bad_hide.mp q).elim h.2.1 fun e=>(by have h1:=h.1; rw [e,hJ] at h1; cases h1),h.2.2⟩
theorem for_ok {C:Ctx} (hS:StOK F) (hX:ExcOK prog w EO F C d A) (hh:A.handled=none) {ev:Expr→SL→RE} (hev:Ok prog w EO F env A ev) {es:Es} (hes:∀ d,OkS prog w EO (F.hide d) A es) (I:Inv prog w F env sl ρ s) {t iter:Expr} {body:List Stmt} {pos:Pos} (hset:notSet iter=true) :
  TriS prog w EO F sl ρ s A ((ev iter sl).bind fun p=>(frzE (p.1.getD sl) p.2).bind fun q=>(match iterA q.2 with
  | some items=>loopS F.env.scope (fun env sl=>es env body sl) t items env (q.1.getD (p.1.getD sl))
  | none=>.fail)) (exec (.For t iter body [] pos) F.env):=fun P X Q E h hQ hE=>by
 have hsf:∀ x,foldedSetIterable iter F.env x=pure x:=fun x=>by
  cases iter<;>first | rfl | exact nomatch hset
 refine wpAny_For ?_ hsf
 refine hev iter sl ρ s I _ X _ _ (R.holds_bind h) (fun xv s₁ h₁=>?_) hE
 obtain ⟨o₁,src,ρ₁,I₁,hsrc,ev₁,hp⟩:=h₁
 obtain ⟨o₂,src',I₂,hsrc',ev₂,_,hp⟩:=frzE_ok I₁ hsrc (R.holds_bind hp)
 dsimp only at hp
 have evA:=ev₁.trans ev₂
 have hE₁:=hE.after evA
 clear hsrc I₁ ev₁ ev₂ hE
 generalize o₂.getD (o₁.getD sl)=sl₁ at *
 split at hp
 ·rename_i items hit
  refine pyIter_ok hh I₂ hit hsrc' fun J s₂ fp n P₀ St It=>?_
  have newJ:=It.new
  have evU:∀ {sl':SL} {ρ':List Addr} {s':Shared},Evo (F.hide J) sl₁ ρ₁ s₁ sl' ρ' s'→Evo F sl₁ ρ₁ s₁ sl' ρ' s':=fun e=>⟨e.keep,e.gens,e.drawn,e.os,e.ext,e.mu,e.live⟩
  have evH:∀ {sl':SL} {ρ':List Addr} {s':Shared},Evo (F.hide J) sl₁ ρ₁ s₁ sl' ρ' s'→Evo F sl ρ s sl' ρ' s':=fun e=>evA.trans (evU e)
  have ev₀:Evo (F.hide J) sl₁ ρ₁ s₁ sl₁ ρ₁ s₂:=⟨fun a o e _=>.of (It.grow.keep a o e),It.grow.gens,It.grow.drawn,It.grow.os,fun _ _ e=>e,fun _ h=>.inl h,fun a o e=>⟨o,It.grow.keep a o e⟩⟩
  have XJ:(F.hide J).X J:=.inr rfl
  have nfJ:¬ F.fr J:=I₂.nfr newJ
  have liveJ:∀ {env':AEnv} {sl':SL} {ρ':List Addr} {s':Shared},Inv prog w (F.hide J) env' sl' ρ' s'→∃ o,s'.heap.get? J=some o:=fun I'=>(I'.low J (.inl XJ)).2
  have showJ:∀ {env':AEnv} {sl':SL} {ρ':List Addr} {s':Shared},Inv prog w (F.hide J) env' sl' ρ' s'→Inv prog w F env' sl' ρ' s':=fun I'=>I'.show (fun _ _ _ e=>e) (liveJ I') nfJ
  have I₀:Inv prog w (F.hide J) env sl₁ ρ₁ s₂:=I₂.hide It.grow.keep newJ (let ⟨o,e⟩:=It.live; ⟨o,e⟩)
  have fpFr:∀ b∈fp,¬ F.fr b:=fun b hb q=>by
   rcases It.fp b hb with e | ⟨ob,e⟩
   ·exact nfJ (e ▸ q)
   ·exact e.2.1 (.inl (F.frX b q))
  have fpMut:∀ {env':AEnv} {sl':SL} {ρ':List Addr} {s':Shared},Inv prog w (F.hide J) env' sl' ρ' s'→Evo (F.hide J) sl₁ ρ₁ s₁ sl' ρ' s'→∀ b∈fp,¬ Mut (F.hide J) sl' ρ' b:=fun I' ev' b hb q=>by
   rcases It.fp b hb with e | ⟨ob,e⟩
   ·subst e; exact I'.x_not_mut XJ q
   ·rcases ev'.mu b q with q | q
    ·exact e.2.1 (.inr q)
    ·rw [e.1] at q; exact nomatch q
  have has₀:∀ {sl':SL} {ρ':List Addr} {s':Shared},Evo (F.hide J) sl₁ ρ₁ s₁ sl' ρ' s'→∀ {av:AV} {v:Value},Has prog w (Vw F sl₁ ρ₁ s₁.heap) ρ₁ av v→Has prog w (Vw (F.hide J) sl' ρ' s'.heap) ρ' av v:=fun ev' av v hh'=>
   ev'.has (Has.mono prog w (fun b o h=>⟨h.1,fun q=>(bad_hide.mp q).elim h.2.1 fun e=>(by have h1:=h.1; rw [e,newJ] at h1; cases h1),h.2.2⟩) (fun _ _ e=>e) _ _ hh')
  have onExc:∀ {env':AEnv} {sl':SL} {ρ':List Addr} {s':Shared},Inv prog w (F.hide J) env' sl' ρ' s'→Evo (F.hide J) sl₁ ρ₁ s₁ sl' ρ' s'→OnExc prog w EO (F.hide J) sl' ρ' s' X (notedBy (model prog w) A F.env fun e s'=>cameBackBy (model prog w) A F.env E e s'):=fun _ ev' hx e s₃ p f he=>
   hX.through F (Alike.refl F) sl₁ ρ₁ s₁ s₃ ((evU ev').past ⟨p.keep,p.gens,p.drawn,p.os,p.live⟩) e (fun a ha=>by
    cases q:s₁.heap.get? a with
    | none=>rfl
    | some o=>
     obtain ⟨o',q'⟩:=ev'.live a o q
     rw [f a ha] at q'; exact nomatch q') he E fun s₄ p₄ f₄ he₄=>hE₁ hx e s₄ p₄ f₄ he₄
  refine codeAny_forLoop_any (fun k s'=>∃ i env' sl' ρ',i+k=n∧Inv prog w (F.hide J) env' sl' ρ' s'∧Evo (F.hide J) sl₁ ρ₁ s₁ sl' ρ' s'∧St i s'.heap∧(loopS F.env.scope (fun env sl=>es env body sl) t (items.drop i) env' sl').Holds P X) ?_ n ⟨0,env,sl₁,ρ₁,Nat.zero_add n,I₀,ev₀,It.st,hp⟩
  rintro k s₅ ⟨i,env',sl',ρ',hik,I₅,ev₅,st₅,hh₅⟩
  cases k with
  | zero=>
   have hi:i=n:=by omega
   subst hi
   refine It.walks.done s₅ _ _ st₅ fun h' tk hk=>?_
   have hk':∀ a ob,a≠J→s₅.heap.get? a=some ob→h'.get? a=some ob:=fun a ob hne e=>hk a ob (by simpa using hne) e
   rw [List.drop_of_length_le (by rw [It.len]; exact Nat.le_refl _)] at hh₅
   have hh₅:P (.nxt,env',sl'):=hh₅
   refine wpAny_execs_nil ?_
   have I₆:Inv prog w F env' sl' ρ' { s₅ with heap:=h',toks:=tk }:=I₅.drop hk' fun q=>I₂.fresh newJ (.inl q)
   exact hQ _ _ ⟨.nxt,env',sl',ρ',I₆,evA.trans ((evU ev₅).turn newJ hk' rfl rfl rfl),rfl,hh₅⟩
  | succ k=>
   have hi:i<n:=by omega
   refine It.walks.item i s₅ _ _ hi st₅ fun v h' tk hv st₆ hk=>?_
   have hk':∀ a ob,a≠J→s₅.heap.get? a=some ob→h'.get? a=some ob:=fun a ob hne e=>hk a ob (by simpa using hne) e
   have tJ:=It.stLive _ _ st₆
   let s₆:Shared:={ s₅ with heap:=h',toks:=tk }
   have I₆:Inv prog w (F.hide J) env' sl' ρ' s₆:=I₅.turn XJ nfJ hk' (let ⟨o,e,_⟩:=tJ; ⟨o,e⟩)
   have ev₆:Evo (F.hide J) sl₁ ρ₁ s₁ sl' ρ' s₆:=ev₅.turn newJ hk' rfl rfl rfl
   obtain ⟨av,hav,hhas⟩:=It.has i v hi hv
   have hlt:i<items.length:=(List.getElem?_eq_some_iff.mp hav).1
   have hdrop:items.drop i=av :: items.drop (i+1):=by
    rw [List.drop_eq_getElem_cons hlt]
    congr 1
    rw [List.getElem?_eq_getElem hlt] at hav
    injection hav
   rw [hdrop] at hh₅
   have hitem:Has prog w (Vw (F.hide J) sl' ρ' s₆.heap) ρ' av v:=Has.mono prog w (has_turn (F:=F.hide J) XJ hk') (fun _ _ e=>e) _ _ (has₀ ev₅ hhas)
   refine letOwn_ok tJ ?_
   have hh₅:(match bindP F.env.scope t av env' with
    | none=>.fail
    | some env'=>(es env' body sl').bind fun p=>match p with
     | (.nxt,env₁,sl₁)=>loopS F.env.scope (fun env sl=>es env body sl) t (items.drop (i+1)) env₁ sl₁
     | (.ret v,env₁,sl₁)=>.ret (.ret v,env₁,sl₁):RS).Holds P X:=hh₅
   split at hh₅
   ·exact hh₅.elim
   ·rename_i env₇ hb
    refine bindP_ok (F:=F.hide J) ⟨hS.kind,hS.apart,hS.cells⟩ hh I₆ hb hitem fun s₇ I₇ ev₇=>?_
    have ev₀₇:=ev₆.trans ev₇
    refine hes J body env₇ sl' ρ' s₇ I₇ _ X _ _ (R.holds_bind hh₅) (fun f s₈ h₈=>?_) (onExc I₇ ev₀₇)
    obtain ⟨fl,env₈,sl₈,ρ₈,I₈,ev₈,hf,hp₈⟩:=h₈
    have ev₀₈:=ev₀₇.trans ev₈
    cases fl with
    | nxt=>
     have hf:f=.next:=hf
     subst hf
     have st₈:St (i+1) s₈.heap:=It.walks.frame _ _ _ st₆ fun b hb ob e=>((ev₇.trans ev₈).keep b ob e (fpMut I₆ ev₆ b hb)).exact (fpFr b hb)
     exact ⟨k,Nat.lt_succ_self k,i+1,env₈,sl₈,ρ₈,by omega,I₈,ev₀₈,st₈,hp₈⟩
    | ret rv=>
     obtain ⟨v',hf,hr⟩:=hf
     subst hf
     exact hQ _ _ ⟨.ret rv,env₈,sl₈,ρ₈,showJ I₈,evH ev₀₈,⟨v',rfl,Has.mono prog w (fun b o h=>⟨h.1,fun q=>h.2.1 (bad_hide.mpr (.inl q)),h.2.2⟩) (fun _ _ e=>e) _ _ hr⟩,hp₈⟩
 ·exact hp.elim
theorem ExcOK.hide {C:Ctx} (h:ExcOK prog w EO F C d A) (a:Addr):ExcOK prog w EO (F.hide a) C d A:=⟨fun hr n F' hF'=>h.raise hr n F' hF',fun F' hF'=>h.through F' hF'⟩
theorem StOK.hide (h:StOK F) (a:Addr):StOK (F.hide a):=⟨h.kind,h.apart,h.cells⟩
theorem FrmOK.hide (h:FrmOK F A) (a:Addr):FrmOK (F.hide a) A:=⟨h.kind,h.glob,h.blt,h.frames⟩
theorem stepS_ok {C:Ctx} (hG:GOK prog w C F.base) (r:Room A d) {n:Nat} {es:Es} (hF:FrmOK F A) (hS:StOK F) (hX:ExcOK prog w EO F C d A) (hes:OkS prog w EO F A es) (hesH:∀ d,OkS prog w EO (F.hide d) A es) (I:Inv prog w F env sl ρ s) (st:Stmt) :
  TriS prog w EO F sl ρ s A (stepS C d n F.env.scope es env st sl) (exec st F.env):=by
 have hev:Ok prog w EO F env A (evalE C d n F.env.scope env):=(evalE_ok (EO:=EO) hG r n F rfl hF hS env).1
 have hB:OkB prog w EO F env A (evalE C d n F.env.scope env):=(evalE_ok (EO:=EO) hG r n F rfl hF hS env).2
 have hevH:∀ d,Ok prog w EO (F.hide d) env A (evalE C _ n F.env.scope env):=fun d=>(evalE_ok (EO:=EO) hG r n (F.hide d) rfl (hF.hide d) (hS.hide d) env).1
 unfold stepS
 dsimp only
 split
 ·exact assignA_ok hS r.hand hev hevH I
 ·intro P X Q E h hQ hE
  refine wpAny_Return_some (hev _ sl ρ s I _ X _ _ (R.holds_bind h) (fun v s₁ h₁=>?_) hE)
  obtain ⟨o,av,ρ₁,I₁,hv,ev₁,hp⟩:=h₁
  exact hQ _ _ ⟨.ret av,env,_,ρ₁,I₁,ev₁,⟨v,rfl,hv⟩,hp⟩
 ·intro P X Q E h hQ hE
  obtain ⟨hz,h⟩:=guardB_holds h
  refine wpAny_Expr (hev _ sl ρ s I _ X _ _ (R.holds_bind h) (fun v s₁ h₁=>?_) hE) (by unfold interactive; rw [hF.kind]; rfl) (swapsWith_plain hz)
  obtain ⟨o,av,ρ₁,I₁,hv,ev₁,hp⟩:=h₁
  dsimp only at hp
  split at hp
  ·have hv:v=.none:=hv
   subst hv
   exact hQ _ _ ⟨.nxt,env,_,ρ₁,I₁,ev₁,rfl,hp⟩
  ·exact hp.elim
 ·exact if_ok hS hev hB hevH hes I
 ·intro P X Q E h hQ hE
  obtain ⟨hz,h⟩:=guardB_holds h
  exact for_ok hS hX r.hand hev hesH I hz P X Q E h hQ hE
 ·rename_i f p args cpos pos
  intro P X Q E h hQ hE
  split at h
  ·rename_i hc
   simp only [Bool.and_eq_true,beq_iff_eq] at hc
   obtain ⟨⟨⟨hc,hf⟩,hn⟩,hl⟩:=hc
   subst hf
   refine hX.raise hc n F (Alike.refl F) env sl ρ s I args p cpos pos X Q E hn (Nat.eq_of_beq_eq_true hl) ?_ hE
   exact R.holds_bind h
  ·exact h.elim
 ·exact fun P X Q E h _ _=>h.elim
theorem evalS_ok {C:Ctx} {G:Heap} (hG:GOK prog w C G) (r:Room A d):∀ (n:Nat) (F:Frm),F.base=G→FrmOK F A→StOK F→ExcOK prog w EO F C d A→OkS prog w EO F A (evalS C d F.env.scope n)
 | 0,_,_,_,_,_=>fun _ _ _ _ _ _ P X Q E h _ _=>h.elim
 | n+1,F,hb,hF,hS,hX=>by
  subst hb
  have ih:=evalS_ok hG r n F rfl hF hS hX
  have ihH:∀ d',OkS prog w EO (F.hide d') A (evalS C d F.env.scope n):=fun d'=>evalS_ok hG r n (F.hide d') rfl (hF.hide d') (hS.hide d') (hX.hide d')
  intro st env sl ρ s I P X Q E h hQ hE
  cases st with
  | nil=>exact wpAny_execs_nil (hQ _ _ ⟨.nxt,env,sl,ρ,I,.refl ..,rfl,h⟩)
  | cons st rest=>
   have h:(seqS (stepS C d n F.env.scope (evalS C d F.env.scope n) env st sl) fun env sl=>evalS C d F.env.scope n env rest sl).Holds P X:=h
   refine wpAny_execs_cons (stepS_ok hG r hF hS hX ih ihH I st _ X _ _ (R.holds_bind h) (fun f s₁ h₁=>?_) hE)
   obtain ⟨fl,env₁,sl₁,ρ₁,I₁,ev₁,hf,hp⟩:=h₁
   cases fl with
   | nxt=>
    have hf:f=.next:=hf
    subst hf
    exact ih rest env₁ sl₁ ρ₁ s₁ I₁ P X Q E hp (fun f s' hq=>hQ f s' (QS.after ev₁ hq)) (hE.after ev₁)
   | ret av=>
    obtain ⟨v,hf,hv⟩:=hf
    subst hf
    exact hQ _ _ ⟨.ret av,env₁,sl₁,ρ₁,I₁,ev₁,⟨v,rfl,hv⟩,hp⟩
end Mine
end
section
open PySem.SeqAt
namespace Mine
variable {prog:Program} {w:World} {EO:Value→Shared→Prop} {F:Frm} {env:AEnv} {sl:SL} {ρ:List Addr} {s:Shared} {A:Around} {d:Nat}
structure DefAt (G:Heap) (a:Addr) (name:Str) (params:Arguments) (body:List Stmt) (sc:Scope) (xs:List Str):Prop where
 get:∃ o pm cd doc,G.get? a=some o∧o.data=.func (docDef name params body sc pm cd doc)∧G.CodeRec cd name
 lim:G.NoLimit
 sm:∃ o,G.get? sysModules=some o
 kind:sc.kind=.function
 co:sc.isCoroutine=false
 gen:sc.isGenerator=false
 plain:(sc.names.all fun p=>!decide (p.2=.cell)&&!decide (p.2=.free))=true
 bind:∀ pm cd doc vals,vals.length=xs.length→bindArgs (docDef name params body sc pm cd doc) ⟨vals,[]⟩=pure (xs.zip vals)
 loc:(xs.all fun x=>decide (sc.names.lookup x=some .local))=true
 nodup:xs.Nodup
theorem DefAt.noCell {G:Heap} {a:Addr} {name:Str} {params:Arguments} {body:List Stmt} {sc:Scope} {xs:List Str} (D:DefAt G a name params body sc xs):∀ x∈sc.names,x.2≠.cell∧x.2≠.free:=fun x hx=>by
 have:=List.all_eq_true.mp D.plain x hx
 simpa using this
theorem DefAt.noKind {G:Heap} {a:Addr} {name:Str} {params:Arguments} {body:List Stmt} {sc:Scope} {xs:List Str} (D:DefAt G a name params body sc xs) {x:Str}:¬ (sc.names.lookup x=some .cell∨sc.names.lookup x=some .free):=fun h=>by
 rcases h with h | h
 ·exact (D.noCell _ (mem_of_lookup h)).1 rfl
 ·exact (D.noCell _ (mem_of_lookup h)).2 rfl
theorem DefAt.locs {G:Heap} {a:Addr} {name:Str} {params:Arguments} {body:List Stmt} {sc:Scope} {xs:List Str} (D:DefAt G a name params body sc xs) {x:Str} (h:x∈xs):sc.names.lookup x=some .local:=
 of_decide_eq_true (List.all_eq_true.mp D.loc x h)
theorem zip_lookup {V:Vis} {x:Str}:∀ {xs:List Str} {avs:List AV} {vs:List Value} {av:AV},xs.Nodup→HasL prog w V ρ avs vs→(xs.zip avs).lookup x=some av→x∈xs∧∃ v,(xs.zip vs).reverse.lookup x=some v∧Has prog w V ρ av v
 | [],_,_,_,_,_,h=>nomatch h
 | _ :: _,[],_,_,_,_,h=>nomatch h
 | y :: xs,a :: avs,_,av,hn,⟨v,r,e,h1,h2⟩,h=>by
  subst e
  have hn:=List.nodup_cons.mp hn
  rw [List.zip_cons_cons,List.lookup_cons] at h
  have app:∀ (l:List (Str×Value)),(∀ p∈l,p.1≠y)→(l++[(y,v)]).lookup y=some v:=by
   intro l
   induction l with
   | nil=>intro _; simp
   | cons p t ih=>
    intro hp
    have:(y==p.1)=false:=beq_eq_false_iff_ne.mpr (Ne.symm (hp p (by simp)))
    rw [List.cons_append,List.lookup_cons,this]
    exact ih fun q hq=>hp q (by simp [hq])
  have app':∀ (l:List (Str×Value)) (u:Value),l.lookup x=some u→(l++[(y,v)]).lookup x=some u:=by
   intro l u
   induction l with
   | nil=>intro h; cases h
   | cons p t ih=>
    intro h
    rw [List.lookup_cons] at h
    rw [List.cons_append,List.lookup_cons]
    cases e:x==p.1 with
    | true=>rw [e] at h; exact h
    | false=>rw [e] at h; exact ih h
  rw [List.zip_cons_cons,List.reverse_cons]
  split at h
  ·rename_i e
   have e:=eq_of_beq e
   subst e
   injection h with h; subst h
   refine ⟨by simp,v,app _ fun p hp=>?_,h1⟩
   intro q
   have:=List.of_mem_zip (List.mem_reverse.mp hp)
   exact hn.1 (q ▸ this.1)
  ·obtain ⟨h3,u,h4,h5⟩:=zip_lookup hn.2 h2 h
   exact ⟨by simp [h3],u,app' _ _ h4,h5⟩
def Frm.call (name:Str) (sc:Scope) (L a:Addr) (cd:Value) (X fr:Addr→Prop) (frX:∀ b,fr b→X b) (G:Heap):Frm:={ env:=envOf name sc L a cd,X:=X,base:=G,fr:=fr,frX:=frX }
theorem Room.deeper (r:Room A (d+1)) (e:Env):Room (A.deeper e) d:=by
 obtain ⟨h1,h2,h3⟩:=r
 refine ⟨?_,?_,h3⟩
 ·show A.depth+1+d<_; omega
 ·show A.units+3+100*d+200<_; omega
theorem entry_frm {G:Heap} {a:Addr} {name:Str} {params:Arguments} {body:List Stmt} {sc:Scope} {xs:List Str} (D:DefAt G a name params body sc xs) {X fr:Addr→Prop} {L:Addr} {cd:Value} (frX:∀ b,fr b→X b) (hfr:FramesAt fr A) :
  FrmOK (Frm.call name sc L a cd X fr frX G) (A.deeper (envOf name sc L a cd)):=by
 obtain ⟨l,e1,e2⟩:=hfr
 refine ⟨D.kind,rfl,rfl,envOf name sc L a cd :: l,by show A.frames.map _=_; rw [e1]; rfl,fun e he=>?_⟩
 rcases List.mem_cons.mp he with q | q
 ·subst q
  exact ⟨by show sc.kind≠_; rw [D.kind]; decide,L,rfl,.inr rfl⟩
 ·obtain ⟨k,L',f1,f2⟩:=e2 e q
  exact ⟨k,L',f1,.inl f2⟩
theorem entry_st {G:Heap} {a:Addr} {name:Str} {params:Arguments} {body:List Stmt} {sc:Scope} {xs:List Str} (D:DefAt G a name params body sc xs) {X fr:Addr→Prop} {L:Addr} {cd:Value} (frX:∀ b,fr b→X b) :
  StOK (Frm.call name sc L a cd X fr frX G):=⟨D.kind,fun _ _ _ h=>(nomatch h),fun _ h=>(D.noKind h).elim⟩
theorem excOK_none {C:Ctx} (h:C.raise=false):ExcOK prog w (fun _ _=>False) F C d A:=⟨fun q=>(by rw [h] at q; cases q),fun _ _ _ _ _ _ _ _ _ h=>h.elim⟩
theorem entry_inv {G:Heap} {a:Addr} {name:Str} {params:Arguments} {body:List Stmt} {sc:Scope} {xs:List Str} (D:DefAt G a name params body sc xs) {X fr:Addr→Prop} {cd:Value} (frX:∀ b,fr b→X b) {s:Shared} {h₁:Heap} {t:Nat}
  (hG:∀ b o,G.get? b=some o→s.heap.get? b=some o) (hX:∀ b,X b→G.get? b=none∧∃ o,s.heap.get? b=some o) (hfrs:∀ b,fr b→∃ o,s.heap.get? b=some o∧∀ vs,o.data≠.fields vs)
  {avs:List AV} {vs:List Value} (hv:HasL prog w (VX X s.heap) [] avs vs) (hF:PyProof.Rows.Fr s.heap s.heap.objs.size h₁ (fun x=>(xs.zip vs).reverse.lookup x)) :
  Inv prog w (Frm.call name sc s.heap.objs.size a cd X fr frX G) (xs.zip avs) [] [] { s with heap:=h₁,toks:=t }:=by
 have gL:G.get? s.heap.objs.size=none:=by
  cases e:G.get? s.heap.objs.size with
  | none=>rfl
  | some o=>have:=hG _ o e; rw [get_size] at this; exact nomatch this
 have nL:∀ b o,s.heap.get? b=some o→b≠s.heap.objs.size:=fun b o e q=>by rw [q,get_size] at e; exact nomatch e
 have XL:¬ X s.heap.objs.size:=fun q=>by
  obtain ⟨_,o,e⟩:=hX _ q
  rw [get_size] at e; exact nomatch e
 have noOwn:∀ b,¬ OwnA [] [] b:=fun b ⟨n,c,h,_⟩=>by simp at h
 have hvis:∀ b o,VX X s.heap b o→Vw (Frm.call name sc s.heap.objs.size a cd X fr frX G) [] [] h₁ b o:=fun b o h=>
  ⟨hF.keep b o h.1,fun q=>by
   rcases q with q | q | ⟨x,q⟩ | q
   ·exact h.2.1 q
   ·exact nL b o h.1 q
   ·exact nomatch q
   ·exact noOwn b q,h.2.2⟩
 refine ⟨fun b o e=>hF.keep b o (hG b o e),D.sm,fun b h=>?_,⟨_,hF.ns,fun x av e k=>?_⟩,fun x av e k=>(D.noKind k).elim,fun x av e=>.inl ?_,fun x c e=>(nomatch e),rfl,fun n b σ e _=>(by simp at e),fun n m b c c' h=>(by simp at h),fun b h=>(noOwn b h).elim,⟨XL,fun x c e=>(nomatch e)⟩,fun b h=>?_⟩
 ·rcases h with h | h | ⟨x,h⟩ | h
  ·obtain ⟨h1,o,h2⟩:=hX b h
   exact ⟨h1,o,hF.keep b o h2⟩
  ·have h:b=s.heap.objs.size:=h
   subst h
   obtain ⟨o,_,_,e,_⟩:=hF.ns
   exact ⟨gL,o,e⟩
  ·exact nomatch h
  ·exact (noOwn b h).elim
 ·obtain ⟨_,v,h1,h2⟩:=zip_lookup D.nodup hv e
  exact ⟨v,h1,Has.mono prog w hvis (fun _ _ e=>e) _ _ h2⟩
 ·exact D.locs (zip_lookup D.nodup hv e).1
 ·obtain ⟨o,h1,h2⟩:=hfrs b h
  exact ⟨o,hF.keep b o h1,h2⟩
def specF (C:Ctx) (d n:Nat) (sc:Scope) (body:List Stmt) (xs:List Str):List AV→R AV:=fun args=>guardB (Nat.beq args.length xs.length) (runF C d n sc body (xs.zip args))
theorem runF_ok {C:Ctx} {G:Heap} {a:Addr} {name:Str} {params:Arguments} {body:List Stmt} {sc:Scope} {xs:List Str} (D:DefAt G a name params body sc xs) (hG:GOK prog w C G) (hC:C.raise=false) (n:Nat) :
  PureFn prog w G a ⟨d,specF C d n sc body xs⟩:=by
 intro X fr s A vs avs P Q E hGs hX hfrX hfrs hfr r hv h hQ
 obtain ⟨hz,h⟩:=guardB_holds h
 have hz:avs.length=xs.length:=Nat.eq_of_beq_eq_true hz
 obtain ⟨o,pm,cd,doc,g1,g2,g3⟩:=D.get
 have hlen:=hv.length
 refine wpAny_call (call_plain (binds:=xs.zip vs) (by have:=r.depth; omega) (hGs a o g1) g2 (D.lim.keeps hGs) (g3.keeps hGs) (D.bind pm cd doc vs (hlen.trans hz)) (fun x hx=>D.locs (List.of_mem_zip hx).1) (fun h₁ hF=>?_) D.co D.gen D.kind (fun x hx=>(D.noCell x hx).1))
 have I:=entry_inv (prog:=prog) (w:=w) D (cd:=cd) hfrX (t:=s.toks+(xs.zip vs).length) hGs hX hfrs hv hF
 have nL:∀ b o,s.heap.get? b=some o→b≠s.heap.objs.size:=fun b o e q=>by rw [q,get_size] at e; exact nomatch e
 refine evalS_ok (EO:=fun _ _=>False) hG (r.deeper _) n _ rfl (entry_frm D hfrX hfr) (entry_st D hfrX) (excOK_none hC) body _ [] [] _ I _ False _ _ (R.holds_bind h) (fun f s' hq=>?_) (fun hx=>hx.elim)
 obtain ⟨fl,env',sl',ρ',I',ev,hf,hp⟩:=hq
 have fin:∀ (v:Value) (av:AV),GrowF fr s s'→Has prog w (VX X s'.heap) [] av v→P av→Q v s':=fun v av g hh hp=>hQ v s' av g hh hp
 have grow:GrowF fr s s':=⟨fun b ob e=>ev.keep b ob (hF.keep b ob e) fun q=>by
  rcases q with q | ⟨x,q⟩ | ⟨n,c,q,_⟩
  ·exact nL b ob e q
  ·cases q
  ·simp at q,ev.gens,ev.drawn,ev.os⟩
 cases fl with
 | nxt=>
  have hf:f=.next:=hf
  subst hf
  exact fin .none .none grow rfl hp
 | ret av=>
  obtain ⟨v,hf,hv'⟩:=hf
  subst hf
  obtain ⟨o',av',I'',hh,ev',hpure,hp⟩:=frzE_ok I' hv' (R.holds_bind hp)
  refine fin v av' grow (pure_has av' v hpure (Has.mono prog w (fun b ob q=>⟨q.1,fun z=>q.2.1 (.inl z),q.2.2⟩) (fun _ _ e=>e) _ _ hh)) hp
end Mine
end
section
open PySem.SeqAt
namespace Mine
variable {prog:Program} {w:World} {EO:Value→Shared→Prop} {F:Frm} {env:AEnv} {sl:SL} {ρ:List Addr} {s:Shared} {A:Around} {d:Nat}
def specW (C:Ctx) (d n:Nat) (sc:Scope) (body:List Stmt) (x:Str) (xs:List Str):List AV→List AV→R (List AV×AV):=fun items args=>guardB (Nat.beq args.length xs.length&&pureL items) (runW C d n sc body ((x,.loc 0) :: xs.zip args) items)
theorem entry_invW {G:Heap} {a:Addr} {name:Str} {params:Arguments} {body:List Stmt} {sc:Scope} {x:Str} {xs:List Str} (D:DefAt G a name params body sc (x :: xs)) {X fr:Addr→Prop} {cd:Value} {wa:Addr} {s:Shared} {h₁:Heap} {t:Nat}
  (frX:∀ b,fr b→X b∧b≠wa) (hG:∀ b o,G.get? b=some o→s.heap.get? b=some o) (hX:∀ b,X b→G.get? b=none∧∃ o,s.heap.get? b=some o) (hfrs:∀ b,fr b→∃ o,s.heap.get? b=some o∧∀ vs,o.data≠.fields vs) (hwa:X wa)
  {items:List AV} {ws:List Value} {m:Nat} (hg:s.heap.get? wa=some (lstO ws m)) (hi:HasL prog w (VX X s.heap) [] items ws)
  {avs:List AV} {vs:List Value} (hv:HasL prog w (VX X s.heap) [] avs vs) (hF:PyProof.Rows.Fr s.heap s.heap.objs.size h₁ (fun y=>((x :: xs).zip (.ref wa :: vs)).reverse.lookup y)) :
  Inv prog w (Frm.call name sc s.heap.objs.size a cd (fun b=>X b∧b≠wa) fr frX G) ((x,.loc 0) :: xs.zip avs) [Slot.own (.lst items)] [wa] { s with heap:=h₁,toks:=t }:=by
 have gL:G.get? s.heap.objs.size=none:=by
  cases e:G.get? s.heap.objs.size with
  | none=>rfl
  | some o=>have:=hG _ o e; rw [get_size] at this; exact nomatch this
 have nL:∀ b o,s.heap.get? b=some o→b≠s.heap.objs.size:=fun b o e q=>by rw [q,get_size] at e; exact nomatch e
 have XL:¬ X s.heap.objs.size:=fun q=>by
  obtain ⟨_,o,e⟩:=hX _ q
  rw [get_size] at e; exact nomatch e
 have own:∀ b,OwnA [Slot.own (.lst items)] [wa] b→b=wa:=fun b ⟨n,c,h1,h2⟩=>by
  cases n with
  | zero=>simpa using h2.symm
  | succ n=>simp at h1
 have hvis:∀ b o,VX X s.heap b o→Vw (Frm.call name sc s.heap.objs.size a cd (fun b=>X b∧b≠wa) fr frX G) [Slot.own (.lst items)] [wa] h₁ b o:=fun b o h=>
  ⟨hF.keep b o h.1,fun q=>by
   rcases q with q | q | ⟨x,q⟩ | q
   ·exact h.2.1 q.1
   ·exact nL b o h.1 q
   ·exact nomatch q
   ·exact h.2.1 (own b q ▸ hwa),h.2.2⟩
 have look:∀ y av,((x,AV.loc 0) :: xs.zip avs).lookup y=some av→y∈(x :: xs)∧∃ v,((x :: xs).zip (.ref wa :: vs)).reverse.lookup y=some v∧Has prog w (Vw (Frm.call name sc s.heap.objs.size a cd (fun b=>X b∧b≠wa) fr frX G) [Slot.own (.lst items)] [wa] h₁) [wa] av v:=fun y av e=>by
  have hh:HasL prog w (Vw (Frm.call name sc s.heap.objs.size a cd (fun b=>X b∧b≠wa) fr frX G) [Slot.own (.lst items)] [wa] h₁) [wa] (.loc 0 :: avs) (.ref wa :: vs):=
   ⟨.ref wa,vs,rfl,⟨wa,rfl,rfl⟩,HasL.mono prog w hvis (fun n a e=>by simp at e) _ _ hv⟩
  exact zip_lookup (xs:=x :: xs) (avs:=.loc 0 :: avs) D.nodup hh e
 refine ⟨fun b o e=>hF.keep b o (hG b o e),D.sm,fun b h=>?_,⟨_,hF.ns,fun y av e k=>(look y av e).2⟩,fun y av e k=>(D.noKind k).elim,fun y av e=>.inl (D.locs (look y av e).1),fun y c e=>(nomatch e),rfl,fun n b σ e1 e2=>?_,fun n m b c c' h1 h2 _ _=>?_,fun b h=>?_,⟨fun q=>XL q.1,fun y c e=>(nomatch e)⟩,fun b h=>?_⟩
 ·rcases h with h | h | ⟨y,h⟩ | h
  ·obtain ⟨h1,o,h2⟩:=hX b h.1
   exact ⟨h1,o,hF.keep b o h2⟩
  ·have h:b=s.heap.objs.size:=h
   subst h
   obtain ⟨o,_,_,e,_⟩:=hF.ns
   exact ⟨gL,o,e⟩
  ·exact nomatch h
  ·have:=own b h
   subst this
   exact ⟨(hX _ hwa).1,_,hF.keep _ _ hg⟩
 ·cases n with
  | zero=>
   have e1:wa=b:=by simpa using e1
   have e2:Slot.own (.lst items)=σ:=by simpa using e2
   subst e1 e2
   exact ⟨ws,m,hF.keep _ _ hg,HasL.mono prog w hvis (fun n a e=>by simp at e) _ _ hi⟩
  | succ n=>simp at e1
 ·cases n with
  | zero=>cases m with
   | zero=>rfl
   | succ m=>simp at h2
  | succ n=>simp at h1
 ·have:=own b h
  subst this
  exact ⟨nL _ _ hg,fun y q=>(nomatch q),fun q=>q.2 rfl⟩
 ·obtain ⟨o,h1,h2⟩:=hfrs b h
  exact ⟨o,hF.keep b o h1,h2⟩
theorem runW_ok {C:Ctx} {G:Heap} {a:Addr} {name:Str} {params:Arguments} {body:List Stmt} {sc:Scope} {x:Str} {xs:List Str} (D:DefAt G a name params body sc (x :: xs)) (hG:GOK prog w C G) (hC:C.raise=false) (n:Nat) :
  WellFn prog w G a ⟨d,specW C d n sc body x xs⟩:=by
 intro X fr s A wa ws m items vs avs P Q E hGs hX hfrX hfrs hfr r hwa hnf hg hi hv h hQ
 obtain ⟨hz,h⟩:=guardB_holds h
 simp only [Bool.and_eq_true] at hz
 have hz1:avs.length=xs.length:=Nat.eq_of_beq_eq_true hz.1
 obtain ⟨o,pm,cd,doc,g1,g2,g3⟩:=D.get
 have hlen:=hv.length
 have frX':∀ b,fr b→X b∧b≠wa:=fun b hb=>⟨hfrX b hb,fun e=>hnf (e ▸ hb)⟩
 refine wpAny_call (call_plain (binds:=(x :: xs).zip (.ref wa :: vs)) (by have:=r.depth; omega) (hGs a o g1) g2 (D.lim.keeps hGs) (g3.keeps hGs) (D.bind pm cd doc _ (by simp [hlen,hz1])) (fun y hy=>D.locs (List.of_mem_zip hy).1) (fun h₁ hF=>?_) D.co D.gen D.kind (fun y hy=>(D.noCell y hy).1))
 have I:=entry_invW (prog:=prog) (w:=w) D (cd:=cd) (t:=s.toks+((x :: xs).zip (Value.ref wa :: vs)).length) frX' hGs hX hfrs hwa hg hi hv hF
 have nL:∀ b o,s.heap.get? b=some o→b≠s.heap.objs.size:=fun b o e q=>by rw [q,get_size] at e; exact nomatch e
 refine evalS_ok (EO:=fun _ _=>False) hG (r.deeper _) n _ rfl (entry_frm D frX' hfr) (entry_st D frX') (excOK_none hC) body _ _ [wa] _ I _ False _ _ (R.holds_bind h) (fun f s' hq=>?_) (fun hx=>hx.elim)
 obtain ⟨fl,env',sl',ρ',I',ev,hf,hp⟩:=hq
 cases fl with
 | nxt=>exact hp.elim
 | ret av=>
  obtain ⟨v,hf,hv'⟩:=hf
  subst hf
  obtain ⟨o',av',I'',hh,ev',hpure,hp⟩:=frzE_ok I' hv' (R.holds_bind hp)
  have hp:(match (o'.getD sl')[0]? with
   | some (Slot.own (.lst l))=>(match pureL l with
    | true=>.ret (l,av')
    | false=>.fail)
   | _=>.fail:R (List AV×AV)).Holds P False:=hp
  split at hp
  ·rename_i l hs
   split at hp
   ·rename_i hpl
    have hw0:ρ'[0]?=some wa:=ev.ext 0 wa rfl
    obtain ⟨ws',m',k1,k2⟩:=I''.slots 0 wa _ hw0 hs
    have vis:∀ b ob,Vw (Frm.call name sc s.heap.objs.size a cd (fun b=>X b∧b≠wa) fr frX' G) (o'.getD sl') ρ' s'.heap b ob→VX X s'.heap b ob:=fun b ob q=>⟨q.1,fun z=>by
     by_cases e:b=wa
     ·subst e
      exact q.2.1 (.inr (.inr (.inr ⟨0,_,hs,hw0⟩)))
     ·exact q.2.1 (.inl ⟨z,e⟩),q.2.2⟩
    refine hQ v s' l ws' m' av' (fun b ob hb e=>ev.keep b ob (hF.keep b ob e) fun q=>?_) ev.gens ev.drawn ev.os k1 (pureL_has l ws' hpl (HasL.mono prog w vis (fun _ _ e=>e) _ _ k2)) (pure_has av' v hpure (Has.mono prog w vis (fun _ _ e=>e) _ _ hh)) hp
    rcases q with q | ⟨y,q⟩ | ⟨n,c,q,q'⟩
    ·exact nL b ob e q
    ·cases q
    ·cases n with
     | zero=>exact hb (by simpa using q'.symm)
     | succ n=>simp at q
   ·exact hp.elim
  ·exact hp.elim
end Mine
end
section
open PySem.SeqAt
namespace Mine
variable {prog:Program} {w:World} {A:Around} {s:Shared}
abbrev bmE:List Value:=[.type "Exception",.type "BaseException",.type "object"]
theorem find_init:findCls [] (.type "Exception") (.type "type") "__init__" = some (.val (.builtin "Exception.__init__")):=by first | rfl | kernel_rfl
theorem frag_nil (h:Heap):Frag.In [] h:=fun _ _ hq=>nomatch hq
section
variable {E:Value→Shared→Prop} {env:Env} {h₀:Heap} {L:Addr} {m:Str→Option Value}
theorem call_exc_init {np apos pos:Pos} {args:List Expr} {Q:Value→Shared→Prop} (hF:PyProof.Rows.Fr h₀ L s.heap m) (hl:(apos.endLine==pos.line)=true) (hn:noStar args=true) (hz:args.length<20)
  (hname:∀ (Q:Value→Shared→Prop),Q (.type "Exception") s→wpAny (model prog w) A (eval (.Name "Exception" np) env) Q E s)
  (h:wpAny (model prog w) A (spliced (backTo pos (starEach args env))) (fun vs s₁=>wpAny (model prog w) A (call (.builtin "Exception.__init__") vs) Q E s₁) E { s with toks:=s.toks+1 }) :
  wpAny (model prog w) A (eval (.Call (.Attribute (.Name "Exception" np) "__init__" apos) args [] pos) env) Q E s:=by
 have hbase:attributeBase (.Name "Exception" np) "__init__" env (eval (.Name "Exception" np) env)=eval (.Name "Exception" np) env:=by
  rfl
 have hp:=noStar_plain (env:=env) (pos:=pos) hn
 have hfew:((backTo pos (starEach args env)).all (fun x=>!x.1)&&(backToKw pos (keywordEach [] env)).all (fun x=>x.1.isSome)
   && decide (args.length+([]:List Keyword).length+(if ([]:List Keyword).isEmpty then 0 else 1)<30))=true:=by
  rw [hp.2]
  simp only [keywordEach,backToKw,List.map_nil,List.all_nil,Bool.true_and,List.length_nil,Nat.add_zero,List.isEmpty_nil,if_true,decide_eq_true_eq]
  omega
 have hform:methodCallForm (args.length+([]:List Keyword).length) (backTo pos (starEach args env)) (backToKw pos (keywordEach [] env))=true:=hfew
 have hpos:methodCallPos true (.Name "Exception" np) env apos pos=pure pos:=by unfold methodCallPos; simp [hl]
 rw [arm_eval_Call,hbase]
 refine wpAny_bind (hname _ (wpAny_bind (wpAny_standAt ?_)))
 unfold methodCall
 rw [hform]
 refine wpAny_bind (wpAny_holding (method_type (T := "Exception") (v:=.builtin "Exception.__init__") (K:=[]) hF (frag_nil _) (by first | rfl | kernel_rfl) (by decide +kernel) find_init (by decide +kernel) ?_))
 refine wpAny_bind (wpAny_of_eq hpos ?_)
 exact callWith_builtin hp.1 (evalArgs_of hn h)
end
theorem run_exc_init {h:Heap} {g:Array GenState} {d:Drawn} {t:Nat} {os:OsState} {E:Value→Shared→Prop} {nm q:Str} {C N:Addr} {bs:List Value} {hdct:Bool} {sn:List Str} {sub:List Value} {ab:Bool} {col:Option Bool} {dd:Option Addr} {k0 k1 k2 k3 k5:Option Value}
  {e:Addr} {oe:Obj} {vs:Array Value} {rest:List Value} {Q:Value→Shared→Prop}
  (hC:h.get? C=some (excClassObj nm q C N bs bmE hdct sn sub ab col dd k0 k1 k2 k3 k5 "Exception.__new__")) (he:h.get? e=some oe) (hc:oe.cls=.ref C) (hd:oe.data=.fields vs) (h6:vs.size=6) {t0:Addr} (h0:vs[0]?=some (.ref t0)) (hz:rest.length≤sizeLine)
  (hQ:∀ h' oe',(∀ b o,b≠e→h.get? b=some o→h'.get? b=some o)→h'.get? e=some oe'→oe'.cls=.ref C→oe'.dict=oe.dict→oe'.data=.fields (vs.setIfInBounds 0 (.ref h.objs.size))→h.get? h.objs.size=none→Q .none ⟨h',g,d,t,os⟩) :
  wpAny (model prog w) A (call (.builtin "Exception.__init__") (.ref e :: rest)) Q E ⟨h,g,d,t,os⟩:=by
 have F:=PySem.F.excBase_Exception
 refine wpAny_call (codeAny_call_builtin F.init.plain F.initEntry (wpAny_check_init_sub F hC he hc ?_))
 have h1:0<vs.size:=by omega
 obtain ⟨oc,od,odt,osl⟩:=oe
 simp only at hc hd
 subst hc hd
 unfold Builtin.«BaseException.__init__»
 wp_walk
 rw [h0]
 wp_walk
 have hp:=Heap.get?_push_of_some (h:=h) { cls:=Value.type "tuple",data:=Data.seq rest.toArray } he
 refine hQ _ { cls:=.ref C,dict:=od,data:=.fields (vs.setIfInBounds 0 (.ref h.objs.size)),slots:=osl } (fun b o hb e=>?_) ?_ rfl rfl rfl (get_size h)
 ·exact (Heap.get?_update_other _ _ (Ne.symm hb)).trans (Heap.get?_push_of_some _ e)
 ·exact Heap.get?_update_self _ hp rfl
end Mine
end
section
open PySem.SeqAt
open PySem.Builtin PySem.Builtin.ObjectAttr
namespace Mine
section
variable {prog:Program} {w:World} {A:Around} {E:Value→Shared→Prop} {h:Heap} {g:Array GenState} {d:Drawn} {t:Nat} {os:OsState}
variable {nm q:Str} {C N x:Addr} {bs:List Value} {sn:List Str} {sub:List Value} {ab:Bool} {col:Option Bool} {dd:Option Addr} {k0 k1 k2 k3 k5:Option Value}
 {mN:Str→Option Value} {name:Str} {v:Value} {vs:Array Value} {sl:Array (Option Value)}
theorem attr_first {tk:Tok} {Q:Fin→Shared→Prop} (hC:h.get? C=some (excClassObj nm q C N bs bmE true sn sub ab col dd k0 k1 k2 k3 k5 "Exception.__new__")) (hn:h.Ns N mN) (hna:mN name=none)
  (hB:typeLookup (.type "Exception") name=pure none) {od:Option Addr} (hdn:od=none) (hx:h.get? x=some ⟨.ref C,od,.fields vs,sl⟩)
  (hq:∀ h' tk',(∀ b o,b≠x→h.get? b=some o→h'.get? b=some o)→h'.get? x=some ⟨.ref C,some h.objs.size,.fields vs,sl⟩→h'.Ns1 h.objs.size (fun y=>if y=name then some v else none)→Q (.done (.ret .none)) ⟨h',g,d,tk',os⟩) :
  wpAny (model prog w) A (Builtin.«object.__setattr__» ⟨[.ref x,.str name tk,v],[]⟩) Q E ⟨h,g,d,t,os⟩:=by
 have SF:=PySem.F.store_Exception
 have hpass:=SF.passes (.ref x)
 unfold Builtin.«object.__setattr__»
 repeat (first | rw [refuse_eq] | (rw [refuseLoop_ref,hpass]) | (with_reducible refine wpAny_loadPart_at hx ?_) | with_reducible refine wpAny_mroOf_exc hC ?_ | (with_reducible refine wpAny_typeLookup_exc hC hn SF.mro hB ?_; rw [hna]) | wp_step)
 subst hdn
 have hx₁:=Heap.get?_push_of_some (h:=h) { cls:=Value.type "dict",data:=Data.dict #[] } hx
 have hxs:x≠h.objs.size:=Nat.ne_of_lt (Heap.lt_size hx)
 dsimp only
 rw [if_neg (by simp [typeHasDict])]
 refine wpAny_bind (wpAny_alloc' (wpAny_bind (wpAny_update' hx₁ (wpAny_pure ?_))))
 let H:=(h.push { cls:=.type "dict",data:=.dict #[] }).update x fun o=>{ cls:=o.cls,dict:=some h.objs.size,data:=o.data,slots:=o.slots }
 have hgd:H.get? h.objs.size=some { cls:=.type "dict",data:=.dict #[] }:=(Heap.get?_update_ne _ _ _ _ hxs.symm).trans (Heap.get?_push_at rfl rfl)
 have hgx:H.get? x=some ⟨.ref C,some h.objs.size,.fields vs,sl⟩:=Heap.get?_update_self _ hx₁ rfl
 have hnd:H.Ns h.objs.size (fun _=>none):=⟨_,#[],_,hgd,rfl,fun e he=>absurd he (by simp),fun _=>rfl⟩
 show wpAny _ _ (storeInDict h.objs.size (.str name tk) name v) _ _ _
 unfold storeInDict newKeyGuard
 refine wpAny_bind (wpAny_pure (wpAny_bind (wpAny_nsSet1 (Heap.Ns1.of_empty hnd) fun h' hn' hs=>?_)))
 obtain ⟨oD,esD,epD,hoD,hdD,hcD⟩:=hn'.count (Within.cons name v Within.nil)
 refine wpAny_bind (wpAny_lookBehind hoD (by rw [hdD]; exact pastItsLine_dict (Nat.le_trans hcD (by rw [List.length_cons,List.length_nil,sizeLine_eq]; omega))) ?_)
 wp_walk
 exact hq h' _ (fun b o hb e=>(hs.2 b (Nat.ne_of_lt (Heap.lt_size e))).trans ((Heap.get?_update_ne _ _ _ _ hb).trans (Heap.get?_push_of_some _ e))) ((hs.2 x hxs).trans hgx) hn'
theorem set_first {Q:Unit→Shared→Prop} (hC:h.get? C=some (excClassObj nm q C N bs bmE true sn sub ab col dd k0 k1 k2 k3 k5 "Exception.__new__")) (hn:h.Ns N mN) (hns:mN "__setattr__" = none) (hna:mN name=none)
  (hB:typeLookup (.type "Exception") name=pure none) (hx:h.get? x=some ⟨.ref C,none,.fields vs,sl⟩)
  (hq:∀ h' tk',(∀ b o,b≠x→h.get? b=some o→h'.get? b=some o)→h'.get? x=some ⟨.ref C,some h.objs.size,.fields vs,sl⟩→h'.Ns1 h.objs.size (fun y=>if y=name then some v else none)→Q () ⟨h',g,d,tk',os⟩) :
  wpAny (model prog w) A (setAttr (.ref x) name v) Q E ⟨h,g,d,t,os⟩:=by
 have SF:=PySem.F.store_Exception
 have f3:=SF.slot.bind (.ref x)
 unfold setAttr callSpecial? specialOf
 repeat (any_goals (first | assumption | (with_reducible refine wpAny_loadPart_at hx ?_) | (with_reducible refine wpAny_typeLookup_exc hC hn SF.mro SF.slot.lookup ?_; rw [hns]) | wp_step))
 rw [show [Value.ref x]++[Value.str name t,v]=[.ref x,.str name t,v] from rfl]
 generalize hsa : "object.__setattr__" = sa at SF ⊢
 refine codeAny_call_builtin SF.slot.plain SF.entry ?_
 refine wpAny_check_sa SF hC hx rfl ?_
 refine attr_first hC hn hna hB rfl hx fun h' tk' hk hx' hn'=>?_
 repeat (any_goals (first | assumption | wp_step))
 exact hq h' tk' hk hx' hn'
theorem set_next {Q:Unit→Shared→Prop} {dx:Addr} {mA:Str→Option Value} {ns:List Str} (hC:h.get? C=some (excClassObj nm q C N bs bmE true sn sub ab col dd k0 k1 k2 k3 k5 "Exception.__new__")) (hn:h.Ns N mN) (hns:mN "__setattr__" = none) (hna:mN name=none)
  (hB:typeLookup (.type "Exception") name=pure none) (hx:h.get? x=some ⟨.ref C,some dx,.fields vs,sl⟩) (hxC:x≠C) (hdx:dx≠x) (hd:h.Ns1 dx mA) (hw:Within mA ns) (hz:ns.length≤sizeLine)
  (hq:∀ h' tk',(∀ b o,b≠x→b≠dx→h.get? b=some o→h'.get? b=some o)→(∃ o₁,h'.get? x=some o₁∧o₁.cls=.ref C∧o₁.data=.fields vs)→Q () ⟨h',g,d,tk',os⟩) :
  wpAny (model prog w) A (setAttr (.ref x) name v) Q E ⟨h,g,d,t,os⟩:=by
 refine store_attr (mA:=mA) PySem.F.store_Exception hC hn hns hna hB hxC ⟨_,hx,rfl,fun c q=>(nomatch q),.inr ⟨dx,rfl,hdx,hd⟩⟩ (fun h' tk' _ hk hs=>hq h' tk' (fun b o hb hbd e=>hk b o hb (fun o₀ dx' e1 e2=>?_) e) ?_) hw hz
 ·rw [hx] at e1
  injection e1 with e1
  subst e1
  injection e2 with e2
  subst e2
  exact hbd
 ·obtain ⟨o₁,e1,e2,e3,_⟩:=hs _ hx
  exact ⟨o₁,e1,e2,e3⟩
end
end Mine
end
section
open PySem.SeqAt
namespace Mine
variable {prog:Program} {w:World} {A:Around} {s:Shared}
def initBody (p1 p2 p3 p4 p5 p6 p7 p8 p9 p10 p11 p12 p13 p14:Pos):List Stmt:=
 [.Expr (.Call (.Attribute (.Name "Exception" p1) "__init__" p2) [.Name "self" p3,.Name "word" p4] [] p5) p6,
  .Assign [.Attribute (.Name "self" p7) "word" p8] (.Name "word" p9) p10,
  .Assign [.Attribute (.Name "self" p11) "line" p12] (.Name "line" p13) p14]
structure InitAt (h:Heap) (fI:Addr):Prop where
 fn:∃ o fd p1 p2 p3 p4 p5 p6 p7 p8 p9 p10 p11 p12 p13 p14,h.get? fI=some o∧o.cls=.type "function" ∧ o.data=.func fd∧fd.body=.stmts (initBody p1 p2 p3 p4 p5 p6 p7 p8 p9 p10 p11 p12 p13 p14)∧(p2.endLine==p5.line)=true ∧
  fd.globals=mainGlobals∧fd.builtins=builtinsNs∧h.CodeRec fd.code fd.qualname∧(∀ vals:List Value,vals.length=3→bindArgs fd ⟨vals,[]⟩=pure ((["self","word","line"]:List Str).zip vals)) ∧
  fd.scope.kind=.function∧fd.scope.isCoroutine=false∧fd.scope.isGenerator=false∧(∀ x∈fd.scope.names,x.2≠.cell) ∧
  fd.scope.names.lookup ("self" : Str)=some .local∧fd.scope.names.lookup ("word" : Str)=some .local∧fd.scope.names.lookup ("line" : Str)=some .local∧fd.scope.names.lookup ("Exception" : Str)=some .globalImplicit
structure AFat (h:Heap) (C N fI:Addr):Prop where
 cls:∃ nm q bs sn sub ab col dd k0 k1 k2 k3 k5,h.get? C=some (excClassObj nm q C N bs bmE true sn sub ab col dd k0 k1 k2 k3 k5 "Exception.__new__")
 ns:∃ mN,h.Ns N mN∧mN "__init__" = some (.ref fI)∧mN "__setattr__" = none∧mN "word" = none∧mN "line" = none
 init:InitAt h fI
 lim:h.NoLimit
 glob:∃ mg mb,h.Ns mainGlobals mg∧h.Ns builtinsNs mb∧mg "Exception" = none∧mb "Exception" = some (.type "Exception")
theorem look_word:typeLookup (.type "Exception") "word" = pure none:=by rw [typeLookup_type,builtinLookup_eq_fast]; kernel_rfl
theorem look_line:typeLookup (.type "Exception") "line" = pure none:=by rw [typeLookup_type,builtinLookup_eq_fast]; kernel_rfl
theorem AFat.keeps {h h':Heap} {C N fI:Addr} (x:AFat h C N fI) (k:∀ b o,h.get? b=some o→h'.get? b=some o):AFat h' C N fI:=by
 obtain ⟨⟨nm,q,bs,sn,sub,ab,col,dd,k0,k1,k2,k3,k5,e⟩,⟨mN,n,r⟩,⟨⟨o,fd,p1,p2,p3,p4,p5,p6,p7,p8,p9,p10,p11,p12,p13,p14,f1,f2,f3,f4,f5,f6,f7,f8,r'⟩⟩,lim,mg,mb,g1,g2,r''⟩:=x
 exact ⟨⟨nm,q,bs,sn,sub,ab,col,dd,k0,k1,k2,k3,k5,k _ _ e⟩,⟨mN,n.keeps k,r⟩,⟨⟨o,fd,p1,p2,p3,p4,p5,p6,p7,p8,p9,p10,p11,p12,p13,p14,k _ _ f1,f2,f3,f4,f5,f6,f7,f8.keeps k,r'⟩⟩,lim.keeps k,mg,mb,g1.keeps k,g2.keeps k,r''⟩
structure MadeAF (h h':Heap) (e C:Addr):Prop where
 keeps:∀ b o,h.get? b=some o→h'.get? b=some o
 new:h.get? e=none
 there:∃ o vs t,h'.get? e=some o∧o.cls=.ref C∧o.data=.fields vs∧vs.size=6∧vs[0]?=some (.ref t)∧vs[1]?=some .none
theorem init_ok {h h₁:Heap} {g:Array GenState} {d:Drawn} {t:Nat} {os:OsState} {C N fI e:Addr} {wv lv:Value} {E:Value→Shared→Prop} {Q:Value→Shared→Prop} (hd:A.depth<recursionLimit) (X:AFat h C N fI) (M:Heap.MadeExcOf h h₁ e (.ref C) [wv,lv])
  (hQ:∀ h' t',MadeAF h h' e C→Q .none ⟨h',g,d,t',os⟩):wpAny (model prog w) A (call (.ref fI) [.ref e,wv,lv]) Q E ⟨h₁,g,d,t,os⟩:=by
 obtain ⟨tt,me,mtn,mt⟩:=M.there
 have X₁:=X.keeps M.keeps
 obtain ⟨⟨nm,q,bs,sn,sub,ab,col,dd,k0,k1,k2,k3,k5,hC⟩,⟨mN,n1,n2,n3,n4,n5⟩,⟨⟨o,fd,p1,p2,p3,p4,p5,p6,p7,p8,p9,p10,p11,p12,p13,p14,f1,f2,f3,f4,f5,f6,f7,f8,f9,s1,s2,s3,s4,s5,s6,s7,s8⟩⟩,lim,mg,mb,g1,g2,g3,g4⟩:=id X₁
 have hCe:C≠e:=by
  obtain ⟨⟨_,_,_,_,_,_,_,_,_,_,_,_,_,hC'⟩,_⟩:=X
  intro q; subst q; rw [M.new] at hC'; exact nomatch hC'
 refine wpAny_call (codeAny_call_def (binds:=(["self","word","line"]:List Str).zip [.ref e,wv,lv]) hd f1 f3 lim f8 f4 (.of_eq (f9 _ rfl)) s4 (fun x hx=>?_) (fun h₀ hns hk=>?_) s2 s3 s1)
 ·simp only [List.zip_cons_cons,List.zip_nil_right,List.mem_cons,List.not_mem_nil,or_false] at hx
  rcases hx with rfl | rfl | rfl
  ·exact s5
  ·exact s6
  ·exact s7
 have nL:∀ b o,h₁.get? b=some o→b≠h₁.objs.size:=fun b o e q=>by rw [q,get_size] at e; exact nomatch e
 have heL:e≠h₁.objs.size:=nL e _ me
 let L:=h₁.objs.size
 let env:=callEnv fd L fI
 let m:Str→Option Value:=fun x=>((["self","word","line"]:List Str).zip [Value.ref e,wv,lv]).reverse.lookup x
 have kS:env.kindOf ("self" : Str)=some .local:=s5
 have kW:env.kindOf ("word" : Str)=some .local:=s6
 have kL:env.kindOf ("line" : Str)=some .local:=s7
 have kE:env.scope.names.lookup ("Exception" : Str)=some .globalImplicit:=s8
 have keep₀:∀ b o,h₁.get? b=some o→h₀.get? b=some o:=hk
 have loc:∀ {M:Model} {A:Around} {E:Value→Shared→Prop} {x:Str} {p:Pos} {v:Value} {s:Shared} {Q:Value→Shared→Prop},env.kindOf x=some .local→s.heap.Ns L m→m x=some v→Q v s→(x==("__debug__" : Str))=false→wpAny M A (eval (.Name x p) env) Q E s:=
  fun k n v q d=>wpAny_Name (wpAny_loadName_local s1 k n v q) d
 have mS:m "self" = some (.ref e):=rfl
 have mW:m "word" = some wv:=rfl
 have mL:m "line" = some lv:=rfl
 refine wpAny_execs_cons (wpAny_Expr_any (call_exc_init (h₀:=h₁) (L:=L) (m:=m) ⟨hns,keep₀,Nat.le_refl _⟩ f5 rfl (by simp)
  (fun Q hq=>Name_function_global s1 kE (loadGlobal_builtin (mg:=mg) (mb:=mb) (by show h₀.Ns fd.globals mg; rw [f6]; exact g1.keeps keep₀) g3 (by show h₀.Ns fd.builtins mb; rw [f7]; exact g2.keeps keep₀) g4 hq) (by decide)) ?_)
  (by unfold interactive; rw [show (callEnv fd h₁.objs.size fI).scope.kind=_ from s1]; rfl) rfl)
 refine spliced_cons (loc kS hns mS (spliced_cons (loc kW hns mW (spliced_nil ?_) (by decide))) (by decide))
 refine run_exc_init (keep₀ _ _ hC) (keep₀ _ _ me) rfl rfl rfl rfl (size_line (by simp)) fun h₂ oe₂ k₂ e₂ c₂ d₂ dt₂ hnew=>?_
 have hns₂:h₂.Ns L m:=hns.at fun o e=>k₂ _ o (Ne.symm heL) e
 have old₂:∀ b o,h.get? b=some o→h₂.get? b=some o:=fun b o q=>k₂ b o (fun z=>by rw [z,M.new] at q; cases q) (keep₀ b o (M.keeps b o q))
 have X₂:=X.keeps old₂
 obtain ⟨⟨nm,q,bs,sn,sub,ab,col,dd,k0,k1,k2,k3,k5,hC₂⟩,⟨mN,n1,n2,n3,n4,n5⟩,_⟩:=id X₂
 obtain ⟨oc₂,od₂,odt₂,osl₂⟩:=oe₂
 simp only at c₂ d₂ dt₂
 subst c₂ d₂ dt₂
 refine wpAny_execs_cons (plainObj_wpAny_Assign_Attribute (loc kW hns₂ mW (loc kS hns₂ mS ?_ (by decide)) (by decide)) rfl)
 refine set_first hC₂ n1 n3 n4 look_word e₂ fun h₃ t₃ k₃ e₃ x₃=>?_
 have old₃:∀ b o,h.get? b=some o→h₃.get? b=some o:=fun b o q=>k₃ b o (fun z=>by rw [z,M.new] at q; cases q) (old₂ b o q)
 have hns₃:h₃.Ns L m:=hns₂.at fun o e=>k₃ _ o (Ne.symm heL) e
 have X₃:=X.keeps old₃
 obtain ⟨⟨nm,q,bs,sn,sub,ab,col,dd,k0,k1,k2,k3,k5,hC₃⟩,⟨mN,n1,n2,n3,n4,n5⟩,_⟩:=id X₃
 have ndx:∀ b o,h₂.get? b=some o→b≠h₂.objs.size:=fun b o e q=>by rw [q,get_size] at e; exact nomatch e
 refine wpAny_execs_cons (plainObj_wpAny_Assign_Attribute (loc kL hns₃ mL (loc kS hns₃ mS ?_ (by decide)) (by decide)) rfl)
 refine set_next hC₃ n1 n3 n5 look_line e₃ (Ne.symm hCe) (Ne.symm (ndx e _ e₂)) x₃ (Within.cons _ _ Within.nil) (by decide) fun h₄ t₄ k₄ ⟨o₄,e₄,c₄,d₄⟩=>?_
 refine wpAny_execs_nil ?_
 refine hQ h₄ t₄ ⟨fun b o q=>k₄ b o (fun z=>by rw [z,M.new] at q; cases q) (fun z=>ndx b o (old₂ b o q) z) (old₃ b o q),M.new,o₄,_,_,e₄,c₄,d₄,rfl,rfl,rfl⟩
end Mine
end
section
open PySem.SeqAt
namespace Mine
variable {prog:Program} {w:World} {EO:Value→Shared→Prop} {F:Frm} {env:AEnv} {sl:SL} {ρ:List Addr} {s:Shared} {A:Around} {d:Nat}
def EOA (L:Addr) (fr:Addr→Prop) (C:Addr) (e:Value) (s:Shared):Prop:=
 ∃ a oe vs t,e=.ref a∧s.heap.get? a=some oe∧oe.cls=.ref C∧oe.data=.fields vs∧vs[0]?=some (.ref t) ∧
  (vs[1]?=some .none∨∃ T oT ts,vs[1]?=some (.ref T)∧T≠a∧s.heap.get? T=some oT∧oT.data=.fields ts∧ts[3]?=some (rawInt L)) ∧
  (∀ b,(fr b∨b=L)→∃ o,s.heap.get? b=some o∧∀ vs,o.data≠.fields vs)
theorem raiseStmt_own {env:Env} {E:Value→Shared→Prop} {nm q:Str} {C N:Addr} {bs:List Value} {hdct:Bool} {sn:List Str} {sub:List Value} {ab:Bool} {col:Option Bool} {dd:Option Addr} {k0 k1 k2 k3 k5:Option Value} {newId:String}
  {x:Sem Value} {Q:Flow→Shared→Prop} (hh:A.handled=none)
  (h:wpAny (model prog w) A x (fun v s₁=>∃ e o vs,v=.ref e∧s₁.heap.get? C=some (excClassObj nm q C N bs bmE hdct sn sub ab col dd k0 k1 k2 k3 k5 newId) ∧
   s₁.heap.get? e=some o∧o.cls=.ref C∧o.data=.fields vs∧vs[1]?=some .none∧E (.ref e) s₁) E s) :
  wpAny (model prog w) A (raiseStmt env (some x) none) Q E s:=by
 have hcB:(Value.ref C :: bmE).contains (.type "BaseException")=true:=by rw [List.contains_cons,PySem.F.excBase_Exception.hasBase,Bool.or_true]
 unfold raiseStmt
 refine wpAny_bind (wpAny_mono h (fun v s₁ h₁=>?_) fun _ _ x=>x)
 obtain ⟨e,o,vs,rfl,hC,he,hc,hd,h1,hE⟩:=h₁
 obtain ⟨hp,g,dr,tk,os⟩:=s₁
 obtain ⟨oc,od,odt,osl⟩:=o
 simp only at hc hd
 subst hc hd
 repeat (first | with_reducible refine wpAny_loadPart_at he ?_ | with_reducible refine wpAny_loadPart_at hC ?_ | (with_reducible refine wpAny_isSubtype_exc hC ?_; rw [hcB]) | wp_step)
 rw [h1]
 refine wpAny_pure ?_
 rw [if_neg (by decide)]
 exact wpAny_pure (wpAny_raiseNew_none hh hE)
theorem call_own_exc {C N fI:Addr} {wv lv:Value} {E:Value→Shared→Prop} {Q:Value→Shared→Prop} {s:Shared} (hd:A.depth+1<recursionLimit) (X:AFat s.heap C N fI)
  (hQ:∀ h' t' e,MadeAF s.heap h' e C→Q (.ref e) { s with heap:=h',toks:=t' }):wpAny (model prog w) A (call (.ref C) [wv,lv]) Q E s:=by
 obtain ⟨h,g,dr,tk,os⟩:=s
 obtain ⟨⟨nm,q,bs,sn,sub,ab,col,dd,k0,k1,k2,k3,k5,hC⟩,⟨mN,n1,n2,n3,n4,n5⟩,⟨⟨o,fd,p1,p2,p3,p4,p5,p6,p7,p8,p9,p10,p11,p12,p13,p14,f1,f2,_⟩⟩,_⟩:=id X
 refine wpAny_call_exc_init PySem.F.excBase_Exception hC n1 n2 f1 f2 (fun h' e M=>?_) (size_line (by simp))
 exact init_ok (by show A.depth+(Code.builtin "type.__call__" ⟨[.ref C,wv,lv],[]⟩).weight<_; rw [show (Code.builtin "type.__call__" ⟨[.ref C,wv,lv],[]⟩).weight=1 from by kernel_rfl]; exact hd) X M fun h₂ t₂ M₂=>⟨rfl,hQ h₂ t₂ e M₂⟩
theorem raise_ok {C:Ctx} {Ca N fI:Addr} (hF:FOK F C prog w A) (r:Room A d) (hd1:1≤d) (hX:AFat F.base Ca N fI) (hm:∀ mg,F.base.Ns mainGlobals mg→mg "AssemblyFault" = some (.ref Ca)) (hn:F.env.scope.names.lookup ("AssemblyFault" : Str)=some .globalImplicit)
  {ev:Expr→SL→RE} (hev:Ok prog w EO F env A ev) (hEO:EO=EOA F.env.locals F.fr Ca) (I:Inv prog w F env sl ρ s) {args:List Expr} {p cpos pos:Pos} {X:Prop} {Q:Flow→Shared→Prop} {E:Value→Shared→Prop} (hns:noStar args=true) (h2:args.length=2)
  (h:(evL ev args sl).Holds (fun _=>X) X) (hE:OnExc prog w EO F sl ρ s X E) :
  wpAny (model prog w) A (exec (.Raise (some (.Call (.Name "AssemblyFault" p) args [] cpos)) none pos) F.env) Q E s:=by
 obtain ⟨mg,mb,n1,n2,_⟩:=hF.glob.names
 have len:∀ (es:List Expr) (sl:SL) (P:Option SL×List AV→Prop),(evL ev es sl).Holds P X→(evL ev es sl).Holds (fun q=>P q∧q.2.length=es.length) X:=by
  intro es
  induction es with
  | nil=>intro sl P h; exact ⟨h,rfl⟩
  | cons e r ih=>
   intro sl P h
   have main:(∀ x p,e≠.Starred x p)→(evL ev (e :: r) sl).Holds (fun q=>P q∧q.2.length=(e :: r).length) X:=fun hne=>by
    have e1:evL ev (e :: r) sl=seqL (ev e sl) sl fun v sl=>(evL ev r sl).bind fun q=>.ret (q.1,v :: q.2):=by
     cases e<;>first | rfl | exact absurd rfl (hne _ _)
    rw [e1] at h ⊢
    unfold seqL at h ⊢
    refine R.holds_bind' (R.holds_mono (fun q hq=>?_) id (R.holds_bind h))
    obtain ⟨o,v⟩:=q
    cases o with
    | none=>
     refine R.holds_bind' (R.holds_mono (fun q hq=>?_) id (ih sl _ (R.holds_bind hq)))
     exact ⟨hq.1,by simp [hq.2]⟩
    | some sl₁=>
     refine R.holds_bind' (R.holds_bind' (R.holds_mono (fun q hq=>?_) id (ih sl₁ _ (R.holds_bind (R.holds_bind hq)))))
     exact ⟨hq.1,by simp [hq.2]⟩
   cases e with
   | Starred x p=>exact h.elim
   | _=>exact main (fun x p h=>nomatch h)
 rw [arm_exec_Raise]
 obtain ⟨⟨nm,q,bs,sn,sub,ab,col,dd,k0,k1,k2,k3,k5,hC⟩,_⟩:=id hX
 refine wpAny_bind (wpAny_standAt (raiseStmt_own (C:=Ca) (nm:=nm) (q:=q) (N:=N) (bs:=bs) (hdct:=true) (sn:=sn) (sub:=sub) (ab:=ab) (col:=col) (dd:=dd) (k0:=k0) (k1:=k1) (k2:=k2) (k3:=k3) (k5:=k5) (newId := "Exception.__new__") r.hand
  (wpAny_bind (wpAny_mono (wpAny_Call_ofName (Name_function_global hF.frm.kind hn (loadGlobal_global (mg:=mg) (by rw [hF.frm.glob]; exact n1.keeps I.base) (hm mg n1) ?_) (by decide))) (fun v s₃ h₃=>wpAny_bind (wpAny_standAt (wpAny_pure h₃))) fun _ _ x=>x))))
 unfold callWith
 refine wpAny_bind (wpAny_holding (evalArgs_of hns (evL_ok hev cpos args sl ρ s I _ X _ _ (len args sl _ h) (fun vs s₁ h₁=>wpAny_bind (wpAny_standAt ?_)) hE)))
 obtain ⟨o,l,ρ₁,I₁,hl,ev₁,hx,hll⟩:=h₁
 have hll:l.length=2:=by rw [← h2]; exact hll
 have hvl:=hl.length
 rw [hll] at hvl
 match vs,hvl with
 | [wv,lv],_=>
  have hC₁:=I₁.base _ _ hC
  obtain ⟨hp,g,dr,tk,os⟩:=s₁
  simp only [(noStar_plain hns).1]
  refine wpAny_bind (wpAny_keeperOf_exc hC₁ ?_)
  refine wpAny_bind (call_own_exc (s:=⟨hp,g,dr,tk,os⟩) (by have:=r.depth; omega) (hX.keeps I₁.base) fun h' t' e M=>wpAny_bind (wpAny_holding (wpAny_point (wpAny_pure ?_))))
  obtain ⟨oe,us,t,e1,e2,e3,e4,e5,e6⟩:=M.there
  refine ⟨e,oe,us,rfl,M.keeps _ _ hC₁,e1,e2,e3,e6,?_⟩
  refine (hE.after ev₁) hx (.ref e) _ ⟨fun a ob q _=>.of (M.keeps a ob q),rfl,rfl,rfl,fun a ob q=>⟨ob,M.keeps a ob q⟩⟩ (fun a ha=>?_) ?_
  ·rcases ha with ha | ⟨x,ox,ws,ha,q1,q2,q3⟩
   ·injection ha with ha; subst ha; exact M.new
   ·injection ha with ha; subst ha
    have q1:h'.get? e=some ox:=q1
    rw [e1] at q1
    injection q1 with q1; subst q1
    rw [e3] at q2
    injection q2 with q2; subst q2
    rw [e6] at q3; exact nomatch q3
  ·subst hEO
   exact ⟨e,oe,us,t,rfl,e1,e2,e3,e5,.inl e6,fun b hb=>let ⟨ob,k1,k2⟩:=I₁.around1 b hb; ⟨ob,M.keeps b ob k1,k2⟩⟩
end Mine
end
section
open PySem.SeqAt
namespace Mine
variable {prog:Program} {w:World} {EO:Value→Shared→Prop} {F:Frm} {env:AEnv} {sl:SL} {ρ:List Addr} {s:Shared} {A:Around} {d:Nat}
def hid (A:Around) (l:List Addr):List Addr:=(match A.frames with | some fs=>fs.filterMap (·.frame) | none=>[])++l
theorem funFrames_of {h:Heap} {as:List Addr} {fr:Addr→Prop} (hl:∀ b,fr b→∃ o,h.get? b=some o∧∀ vs,o.data≠.fields vs):∀ {l:List Env},(∀ e∈l,e.scope.kind≠.module∧∃ L,e.frame=some L∧fr L)→(∀ e∈l,∀ a,e.frame=some a→a∈as)→h.FunFrames (hideAll h as) l
 | [],_,_=>trivial
 | e :: l,h1,h2=>by
  obtain ⟨k,L,f1,f2⟩:=h1 e (by simp)
  obtain ⟨o,g1,g2⟩:=hl L f2
  exact ⟨k,⟨L,o,f1,hideAll_none _ (h2 e (by simp) L f1),g1,g2⟩,funFrames_of hl (fun e' he=>h1 e' (by simp [he])) fun e' he=>h2 e' (by simp [he])⟩
theorem noted_ok {outer:List Env} {e:Addr} {oe:Obj} {vs:Array Value} {a0:Value} {L:Addr} {fe:Env} {Q:Unit→Shared→Prop} {E:Value→Shared→Prop} {fr:Addr→Prop} (hA:A.frames=some (fe :: outer)) (hL:fe.frame=some L)
  (hfr:∀ x∈(fe :: outer),x.scope.kind≠.module∧∃ L,x.frame=some L∧fr L) (hl:∀ b,fr b→∃ o,s.heap.get? b=some o∧∀ vs,o.data≠.fields vs)
  (he:s.heap.get? e=some oe) (hd:oe.data=.fields vs) (h0:vs[0]?=some a0) (h1:vs[1]?=some .none)
  (h:∀ h',(∀ a o,s.heap.get? a=some o→a≠e→Kept fr h' a o)→(∃ oe' vs' T oT ts,h'.get? e=some oe'∧oe'.cls=oe.cls∧oe'.data=.fields vs'∧vs'[0]?=some a0∧vs'[1]?=some (.ref T)∧T≠e∧s.heap.get? T=none∧h'.get? T=some oT∧oT.data=.fields ts∧ts[3]?=some (rawInt L))→Q () { s with heap:=h' }) :
  wpAny (model prog w) A (noteFrame (.ref e) fe) Q E s:=by
 let as:List Addr:=(fe :: outer).filterMap (·.frame)++[e]
 have mem:∀ x∈(fe :: outer),∀ a,x.frame=some a→a∈as:=fun x hx a ha=>List.mem_append_left _ (List.mem_filterMap.mpr ⟨x,hx,ha⟩)
 have hfl:=funFrames_of (h:=s.heap) (as:=as) hl hfr mem
 have hen:(hideAll s.heap as).get? e=none:=hideAll_none _ (List.mem_append_right _ (by simp))
 have frOf:∀ b,b∈(fe :: outer).filterMap (·.frame)→fr b:=fun b hb=>by
  obtain ⟨x,hx,hxb⟩:=List.mem_filterMap.mp hb
  obtain ⟨_,L',f1,f2⟩:=hfr x hx
  rw [hxb] at f1
  injection f1 with f1
  subst f1; exact f2
 unfold noteFrame
 simp only [hL]
 refine wpAny_bind (wpAny_field he hd h1 ?_)
 rw [if_neg (by decide)]
 refine wpAny_entryW (base:=hideAll s.heap as) hA hfl hL he (fun b o q=>of_hideAll _ q) hen hd (Array.getElem?_eq_some_iff.mp h1).1 h0 fun h' hN=>h h' (fun a o q ha=>?_) ?_
 ·obtain ⟨k1,_,_,k4⟩:=hN
  by_cases hm:a∈(fe :: outer).filterMap (·.frame)
  ·have hfa:=frOf a hm
   obtain ⟨o',q',nf⟩:=hl a hfa
   rw [q] at q'
   injection q' with q'
   subst q'
   obtain ⟨t,e'⟩:=k4 a o q nf
   exact ⟨t,e',.inl hfa⟩
  ·exact .of (k1 a o (hideAll_get _ q fun z=>(List.mem_append.mp z).elim hm fun z=>ha (by simpa using z)))
 ·obtain ⟨k1,k2,⟨oe',vs',T,oT,ts,t1,⟨t2,t3⟩,t4,t5,t6,t7,t8,t9,t10⟩,k4⟩:=hN
  refine ⟨oe',vs',T,oT,ts,t1,t2,t4,t3,t5,t7,?_,t8,t9,t10⟩
  cases q:s.heap.get? T with
  | none=>rfl
  | some o=>
   by_cases hm:T∈(fe :: outer).filterMap (·.frame)
   ·obtain ⟨_,o',q',nf⟩:=k2.mem hm
    rw [t8] at q'
    injection q' with q'
    subst q'
    exact absurd t9 (nf ts)
   ·rw [hideAll_get _ q fun z=>(List.mem_append.mp z).elim hm fun z=>t7 (by simpa using z)] at t6
    exact nomatch t6
theorem cameBack_ok {fe:Env} {a T L:Addr} {oe oT:Obj} {vs ts:Array Value} {v3:Value} {E:Value→Shared→Prop} (hL:fe.frame=some L) (he:s.heap.get? a=some oe) (hd:oe.data=.fields vs) (h1:vs[1]?=some (.ref T)) (hT:s.heap.get? T=some oT) (hdT:oT.data=.fields ts) (h3:ts[3]?=some v3)
  (h:∀ h' oT',(∀ b o,b≠T→s.heap.get? b=some o→h'.get? b=some o)→h'.get? T=some oT'→oT'.data=.fields (ts.setIfInBounds 3 (rawInt L))→E (.ref a) { s with heap:=h' }):cameBackBy (model prog w) A fe E (.ref a) s:=by
 unfold cameBackBy
 refine wpAny_bind (wpAny_field he hd h1 ?_)
 rw [if_neg (show ¬ ((Value.ref T==Value.none)=true) from by simp)]
 unfold setFlight
 rw [hL]
 refine wpAny_bind (wpAny_field he hd h1 ?_)
 rw [if_pos (show (Value.ref T != Value.none)=true from by simp)]
 refine wpAny_setField hT hdT (Array.getElem?_eq_some_iff.mp h3).1 ?_
 exact h _ _ (fun b o hb q=>(Heap.get?_update_other _ _ (Ne.symm hb)).trans q) (Heap.get?_update_self _ hT (Obj.isFreed_of_fields (Obj.data_mapFields hdT _))) (Obj.data_mapFields hdT _)
theorem through_ok {C:Addr} {outer:List Env} {E:Value→Shared→Prop} (hF:FrmOK F A) (hA:A.frames=some (F.env :: outer)) (hL:F.env.frame=some F.env.locals) {s₀:Shared} {e:Value} (p:Past F sl ρ s₀ s) (fresh:∀ a,ExcThing e s.heap a→s₀.heap.get? a=none) (he:EOA F.env.locals F.fr C e s)
  (hE:∀ s',Past F sl ρ s₀ s'→(∀ a,ExcThing e s'.heap a→s₀.heap.get? a=none)→EOA F.env.locals F.fr C e s'→E e s') :
  notedBy (model prog w) A F.env (fun e s'=>cameBackBy (model prog w) A F.env E e s') e s:=by
 obtain ⟨a,oe,vs,t,rfl,e1,ec,ed,h0,htb,hl⟩:=he
 have ha0:s₀.heap.get? a=none:=fresh a (.inl rfl)
 have hfr:∀ x∈(F.env :: outer),x.scope.kind≠.module∧∃ L,x.frame=some L∧(F.fr L∨L=F.env.locals):=by
  obtain ⟨l,q1,q2⟩:=hF.frames
  rw [hA] at q1
  injection q1 with q1
  subst q1; exact q2
 -- what follows once the frame stands in the traceback
 have back:∀ (s₁:Shared) oe₁ vs₁ T oT ts,(∀ b o,s.heap.get? b=some o→b≠a→Kept (fun L=>F.fr L∨L=F.env.locals) s₁.heap b o)→s₁.gens=s.gens→s₁.drawn=s.drawn→s₁.os=s.os→s₁.heap.get? a=some oe₁→oe₁.cls=.ref C→oe₁.data=.fields vs₁→vs₁[0]?=some (.ref t)→vs₁[1]?=some (.ref T)→T≠a→s₀.heap.get? T=none→s₁.heap.get? T=some oT→oT.data=.fields ts→ts[3]?=some (rawInt F.env.locals) →
   cameBackBy (model prog w) A F.env E (.ref a) s₁:=by
  intro s₁ oe₁ vs₁ T oT ts kp hg hdr hos k1 k2 k3 k4 k5 kT kT0 k6 k7 k8
  refine cameBack_ok hL k1 k3 k5 k6 k7 k8 fun h' oT' kp' g1 g2=>?_
  have hsz:3<ts.size:=(Array.getElem?_eq_some_iff.mp k8).1
  have ea:h'.get? a=some oe₁:=kp' a oe₁ (Ne.symm kT) k1
  refine hE _ ⟨fun b o q hm=>?_,hg.trans p.gens,hdr.trans p.drawn,hos.trans p.os,fun b o q=>?_⟩ (fun x hx=>?_) ⟨a,oe₁,vs₁,t,rfl,ea,k2,k3,k4,.inr ⟨T,oT',_,k5,kT,g1,g2,by simp [hsz]⟩,fun b hb=>?_⟩
  ·have hba:b≠a:=fun z=>by rw [z,ha0] at q; cases q
   have hbT:b≠T:=fun z=>by rw [z,kT0] at q; cases q
   refine (p.keep b o q hm).trans fun o' q'=>?_
   obtain ⟨u,q1,q2⟩:=kp b o' q' hba
   exact ⟨u,kp' b _ hbT q1,q2.imp (fun z=>z.resolve_right fun z=>hm (.inl z)) id⟩
  ·have hba:b≠a:=fun z=>by rw [z,ha0] at q; cases q
   have hbT:b≠T:=fun z=>by rw [z,kT0] at q; cases q
   obtain ⟨o',q'⟩:=p.live b o q
   obtain ⟨o'',q'',_⟩:=(kp b o' q' hba).some
   exact ⟨o'',kp' b o'' hbT q''⟩
  ·rcases hx with hx | ⟨y,oy,ws,hx,q1,q2,q3⟩
   ·injection hx with hx; subst hx; exact ha0
   ·injection hx with hx; subst hx
    have q1:h'.get? a=some oy:=q1
    rw [ea] at q1
    injection q1 with q1; subst q1
    rw [k3] at q2
    injection q2 with q2; subst q2
    rw [k5] at q3
    injection q3 with q3
    injection q3 with q3
    subst q3; exact kT0
  ·obtain ⟨o,q1,q2⟩:=hl b hb
   have hba:b≠a:=fun z=>by
    rw [z,e1] at q1
    injection q1 with q1
    subst q1; exact q2 vs ed
   obtain ⟨o',q',q''⟩:=(kp b o q1 hba).some
   have hbT:b≠T:=fun z=>by
    rw [z,k6] at q'
    injection q' with q'
    subst q'
    rw [k7] at q''
    exact q2 _ q''.symm
   exact ⟨o',kp' b o' hbT q',fun vs=>q'' ▸ q2 vs⟩
 unfold notedBy
 rcases htb with h1 | ⟨T,oT,ts,h1,hne,hT,hdT,h3⟩
 ·refine noted_ok hA hL hfr hl e1 ed h0 h1 fun h' kp ⟨oe',vs',T,oT,ts,k1,k2,k3,k4,k5,k6,k7,k8,k9,k10⟩=>?_
  refine back { s with heap:=h' } oe' vs' T oT ts kp rfl rfl rfl k1 (k2.trans ec) k3 k4 k5 k6 ?_ k8 k9 k10
  cases q:s₀.heap.get? T with
  | none=>rfl
  | some o=>
   obtain ⟨o',q'⟩:=p.live T o q
   rw [k7] at q'; exact nomatch q'
 ·refine wpAny_noteFrame_inFlight hL e1 ed h1 hT hdT h3 ?_
  exact back s oe vs T oT ts (fun b o q _=>.of q) rfl rfl rfl e1 ec ed h0 h1 hne (fresh T (.inr ⟨a,oe,vs,rfl,e1,ed,h1⟩)) hT hdT h3
end Mine
end
section
open PySem.SeqAt
namespace Mine
variable {prog:Program} {w:World} {EO:Value→Shared→Prop} {F:Frm} {env:AEnv} {sl:SL} {ρ:List Addr} {s:Shared} {A:Around} {d:Nat}
structure Flown (s s':Shared) (fr:Addr→Prop) (C:Addr) (e:Value):Prop where
 keep:∀ b o,s.heap.get? b=some o→Kept fr s'.heap b o
 gens:s'.gens=s.gens
 drawn:s'.drawn=s.drawn
 os:s'.os=s.os
 exc:∃ a oe vs t T oT ts,e=.ref a∧s'.heap.get? a=some oe∧oe.cls=.ref C∧oe.data=.fields vs∧vs[0]?=some (.ref t)∧vs[1]?=some (.ref T)∧T≠a∧s'.heap.get? T=some oT∧oT.data=.fields ts∧ts[3]?=some .none∧s.heap.get? a=none∧s.heap.get? T=none
theorem landed_ok {a T:Addr} {oe oT:Obj} {vs ts:Array Value} {v3:Value} {E:Value→Shared→Prop} {Q:Unit→Shared→Prop} (he:s.heap.get? a=some oe) (hd:oe.data=.fields vs) (h1:vs[1]?=some (.ref T)) (hT:s.heap.get? T=some oT) (hdT:oT.data=.fields ts) (h3:ts[3]?=some v3)
  (h:∀ h' oT',(∀ b o,b≠T→s.heap.get? b=some o→h'.get? b=some o)→h'.get? T=some oT'→oT'.data=.fields (ts.setIfInBounds 3 .none)→Q () { s with heap:=h' }):wpAny (model prog w) A (setFlight (.ref a) none) Q E s:=by
 unfold setFlight
 refine wpAny_bind (wpAny_field he hd h1 ?_)
 rw [if_pos (show (Value.ref T != Value.none)=true from by simp)]
 refine wpAny_setField hT hdT (Array.getElem?_eq_some_iff.mp h3).1 ?_
 exact h _ _ (fun b o hb q=>(Heap.get?_update_other _ _ (Ne.symm hb)).trans q) (Heap.get?_update_self _ hT (Obj.isFreed_of_fields (Obj.data_mapFields hdT _))) (Obj.data_mapFields hdT _)
theorem leave_ok {C:Addr} {outer:List Env} {Q:Unit→Shared→Prop} {E:Value→Shared→Prop} (hF:FrmOK F A) (hA:A.frames=some (F.env :: outer)) (hL:F.env.frame=some F.env.locals) {s₀:Shared} {e:Value} (keep:∀ b o,s₀.heap.get? b=some o→Kept F.fr s.heap b o) (hg:s.gens=s₀.gens) (hdr:s.drawn=s₀.drawn) (ho:s.os=s₀.os) (fresh:∀ a,ExcThing e s.heap a→s₀.heap.get? a=none) (he:EOA F.env.locals F.fr C e s) (hL0:s₀.heap.get? F.env.locals=none)
  (hQ:∀ s',Flown s₀ s' F.fr C e→Q () s'):wpAny (model prog w) A (leaving F.env e) Q E s:=by
 obtain ⟨a,oe,vs,t,rfl,e1,ec,ed,h0,htb,hl⟩:=he
 have ha0:s₀.heap.get? a=none:=fresh a (.inl rfl)
 have hfr:∀ x∈(F.env :: outer),x.scope.kind≠.module∧∃ L,x.frame=some L∧(F.fr L∨L=F.env.locals):=by
  obtain ⟨l,q1,q2⟩:=hF.frames
  rw [hA] at q1
  injection q1 with q1
  subst q1; exact q2
 have back:∀ (s₁:Shared) oe₁ vs₁ T oT ts,(∀ b o,s.heap.get? b=some o→b≠a→Kept (fun L=>F.fr L∨L=F.env.locals) s₁.heap b o)→s₁.gens=s.gens→s₁.drawn=s.drawn→s₁.os=s.os→s₁.heap.get? a=some oe₁→oe₁.cls=.ref C→oe₁.data=.fields vs₁→vs₁[0]?=some (.ref t)→vs₁[1]?=some (.ref T)→T≠a→s₀.heap.get? T=none→s₁.heap.get? T=some oT→oT.data=.fields ts→ts[3]?=some (rawInt F.env.locals) →
   wpAny (model prog w) A (setFlight (.ref a) none) Q E s₁:=by
  intro s₁ oe₁ vs₁ T oT ts kp hg₁ hdr₁ hos₁ k1 k2 k3 k4 k5 kT kT0 k6 k7 k8
  refine landed_ok k1 k3 k5 k6 k7 k8 fun h' oT' kp' g1 g2=>?_
  have hsz:3<ts.size:=(Array.getElem?_eq_some_iff.mp k8).1
  refine hQ _ ⟨fun b o q=>?_,hg₁.trans hg,hdr₁.trans hdr,hos₁.trans ho,a,oe₁,vs₁,t,T,oT',_,rfl,kp' a oe₁ (Ne.symm kT) k1,k2,k3,k4,k5,kT,g1,g2,by simp [hsz],ha0,kT0⟩
  have hba:b≠a:=fun z=>by rw [z,ha0] at q; cases q
  have hbT:b≠T:=fun z=>by rw [z,kT0] at q; cases q
  have hbL:b≠F.env.locals:=fun z=>by rw [z,hL0] at q; cases q
  refine (keep b o q).trans fun o' q'=>?_
  obtain ⟨u,q1,q2⟩:=kp b o' q' hba
  exact ⟨u,kp' b _ hbT q1,q2.imp (fun z=>z.resolve_right hbL) id⟩
 unfold leaving
 rcases htb with h1 | ⟨T,oT,ts,h1,hne,hT,hdT,h3⟩
 ·refine wpAny_bind (noted_ok hA hL hfr hl e1 ed h0 h1 fun h' kp ⟨oe',vs',T,oT,ts,k1,k2,k3,k4,k5,k6,k7,k8,k9,k10⟩=>?_)
  refine back { s with heap:=h' } oe' vs' T oT ts kp rfl rfl rfl k1 (k2.trans ec) k3 k4 k5 k6 ?_ k8 k9 k10
  cases q:s₀.heap.get? T with
  | none=>rfl
  | some o=>
   obtain ⟨o',q',_⟩:=(keep T o q).some
   rw [k7] at q'; exact nomatch q'
 ·refine wpAny_bind (wpAny_noteFrame_inFlight hL e1 ed h1 hT hdT h3 ?_)
  exact back s oe vs T oT ts (fun b o q _=>.of q) rfl rfl rfl e1 ec ed h0 h1 hne (fresh T (.inr ⟨a,oe,vs,rfl,e1,ed,h1⟩)) hT hdT h3
def RaiseFn (prog:Program) (w:World) (G:Heap) (C a:Addr) (fn:Fn):Prop:=
 ∀ (X fr:Addr→Prop) (s:Shared) (A:Around) (vs:List Value) (avs:List AV) (P:AV→Prop) (Xp:Prop) (Q E:Value→Shared→Prop),
  (∀ b o,G.get? b=some o→s.heap.get? b=some o)→(∀ b,X b→G.get? b=none∧∃ o,s.heap.get? b=some o)→(∀ b,fr b→X b)→(∀ b,fr b→∃ o,s.heap.get? b=some o∧∀ vs,o.data≠.fields vs)→FramesAt fr A→Room A (fn.height+1)→HasL prog w (VX X s.heap) [] avs vs →
  (fn.spec avs).Holds P Xp→(∀ v s' av,GrowF fr s s'→Has prog w (VX X s'.heap) [] av v→P av→Q v s')→(Xp→∀ e s',Flown s s' fr C e→E e s')→wpAny (model prog w) A (call (.ref a) vs) Q E s
theorem runX_ok {C:Ctx} {G:Heap} {a Ca N fI:Addr} {name:Str} {params:Arguments} {body:List Stmt} {sc:Scope} {xs:List Str} (D:DefAt G a name params body sc xs) (hG:GOK prog w C G) (hd1:1≤d) (hX:AFat G Ca N fI) (hm:∀ mg,G.Ns mainGlobals mg→mg "AssemblyFault" = some (.ref Ca)) (hn:sc.names.lookup ("AssemblyFault" : Str)=some .globalImplicit) (n:Nat) :
  RaiseFn prog w G Ca a ⟨d,specF C d n sc body xs⟩:=by
 intro X fr s A vs avs P Xp Q E hGs hXX hfrX hfrs hfr r hv h hQ hE
 obtain ⟨hz,h⟩:=guardB_holds h
 have hz:avs.length=xs.length:=Nat.eq_of_beq_eq_true hz
 obtain ⟨o,pm,cd,doc,g1,g2,g3⟩:=D.get
 have hlen:=hv.length
 refine wpAny_call (call_plain (binds:=xs.zip vs) (by have:=r.depth; omega) (hGs a o g1) g2 (D.lim.keeps hGs) (g3.keeps hGs) (D.bind pm cd doc vs (hlen.trans hz)) (fun x hx=>D.locs (List.of_mem_zip hx).1) (fun h₁ hF=>?_) D.co D.gen D.kind (fun x hx=>(D.noCell x hx).1))
 have I:=entry_inv (prog:=prog) (w:=w) D (cd:=cd) hfrX (t:=s.toks+(xs.zip vs).length) hGs hXX hfrs hv hF
 have nL:∀ b o,s.heap.get? b=some o→b≠s.heap.objs.size:=fun b o e q=>by rw [q,get_size] at e; exact nomatch e
 have frm:=entry_frm (A:=A) (a:=a) (L:=s.heap.objs.size) (cd:=cd) D hfrX hfr
 have st:=entry_st (a:=a) (L:=s.heap.objs.size) (cd:=cd) D hfrX
 obtain ⟨outer,hA,_⟩:=id hfr
 have hA':(A.deeper (envOf name sc s.heap.objs.size a cd)).frames=some (envOf name sc s.heap.objs.size a cd :: outer):=by
  show A.frames.map _=_
  rw [hA]; rfl
 have ex:ExcOK prog w (EOA s.heap.objs.size fr Ca) (Frm.call name sc s.heap.objs.size a cd X fr hfrX G) C d (A.deeper (envOf name sc s.heap.objs.size a cd)):=by
  refine ⟨fun _ n F' hF' env sl ρ s' I' args p cpos pos Xq Q' E' hns h2 hh hE'=>?_,fun F' hF' sl ρ s₀ s' p e fresh he E' hE'=>?_⟩
  ·obtain ⟨q1,q2,q3⟩:=hF'
   have frm':FrmOK F' (A.deeper (envOf name sc s.heap.objs.size a cd)):=⟨by rw [q1]; exact frm.kind,by rw [q1]; exact frm.glob,by rw [q1]; exact frm.blt,by
    rw [q1,q3]; exact frm.frames⟩
   have st':StOK F':=⟨by rw [q1]; exact st.kind,by rw [q1]; exact st.apart,by rw [q1]; exact st.cells⟩
   have q2':F'.base=G:=q2
   refine raise_ok (EO:=EOA s.heap.objs.size fr Ca) (C:=C) (d:=d) ⟨frm',by rw [q2']; exact hG⟩ (r.deeper _) hd1 (by rw [q2']; exact hX) (by rw [q2']; exact hm) (by rw [q1]; exact hn) (evalE_ok hG (r.deeper _) n F' q2' frm' st' env).1 (by rw [q1,q3]; rfl) I' hns h2 hh hE'
  ·obtain ⟨q1,q2,q3⟩:=hF'
   have frm':FrmOK F' (A.deeper (envOf name sc s.heap.objs.size a cd)):=⟨by rw [q1]; exact frm.kind,by rw [q1]; exact frm.glob,by rw [q1]; exact frm.blt,by
    rw [q1,q3]; exact frm.frames⟩
   have e1:EOA F'.env.locals F'.fr Ca=EOA s.heap.objs.size fr Ca:=by rw [q1,q3]; rfl
   exact through_ok (C:=Ca) (outer:=outer) frm' (by rw [q1]; exact hA') (by rw [q1]; rfl) p fresh (by rw [e1]; exact he) (by rw [e1]; exact hE')
 refine evalS_ok (EO:=EOA s.heap.objs.size fr Ca) hG (r.deeper _) n _ rfl frm st ex body _ [] [] _ I _ Xp _ _ (R.holds_bind h) (fun f s' hq=>?_) (fun hx e s' p fresh he=>?_)
 ·obtain ⟨fl,env',sl',ρ',I',ev,hf,hp⟩:=hq
  have grow:GrowF fr s s':=⟨fun b ob e=>ev.keep b ob (hF.keep b ob e) fun q=>by
   rcases q with q | ⟨x,q⟩ | ⟨n,c,q,_⟩
   ·exact nL b ob e q
   ·cases q
   ·simp at q,ev.gens,ev.drawn,ev.os⟩
  cases fl with
  | nxt=>
   have hf:f=.next:=hf
   subst hf
   exact hQ .none s' .none grow rfl hp
  | ret av=>
   obtain ⟨v,hf,hv'⟩:=hf
   subst hf
   obtain ⟨o',av',I'',hh,ev',hpure,hp⟩:=frzE_ok I' hv' (R.holds_bind hp)
   exact hQ v s' av' grow (pure_has av' v hpure (Has.mono prog w (fun b ob q=>⟨q.1,fun z=>q.2.1 (.inl z),q.2.2⟩) (fun _ _ e=>e) _ _ hh)) hp
 ·refine leave_ok (C:=Ca) (outer:=outer) (s₀:=s) (F:=Frm.call name sc s.heap.objs.size a cd X fr hfrX G) frm hA' rfl (fun b o q=>p.keep b o (hF.keep b o q) fun z=>?_) p.gens p.drawn p.os (fun x hx=>?_) he (get_size _) fun s'' fl=>hE hx e s'' fl
  ·rcases z with z | ⟨x,z⟩ | ⟨n,c,z,_⟩
   ·exact nL b o q z
   ·cases z
   ·simp at z
  ·cases q:s.heap.get? x with
   | none=>rfl
   | some o=>
    have:=fresh x hx
    rw [show ({ s with heap:=h₁,toks:=s.toks+(xs.zip vs).length }:Shared).heap.get? x=h₁.get? x from rfl,hF.keep x o q] at this
    exact nomatch this
end Mine
end
section
open PySem.SeqAt
namespace Mine
variable {prog:Program} {w:World} {EO:Value→Shared→Prop} {F:Frm} {env:AEnv} {sl:SL} {ρ:List Addr} {s:Shared} {A:Around} {d:Nat}
def catchR:R AV→R AV
 | .ret _=>.ret (.bool false)
 | .exc=>.ret (.bool true)
 | .ite b x y=>.ite b (catchR x) (catchR y)
 | .need p x=>.need p (catchR x)
 | .fail=>.fail
theorem catchR_holds {P:AV→Prop}:∀ {x:R AV},(catchR x).Holds P False→x.Holds (fun _=>P (.bool false)) (P (.bool true))
 | .ret _,h=>h
 | .exc,h=>h
 | .ite _ _ _,⟨h1,h2⟩=>⟨fun e=>catchR_holds (h1 e),fun e=>catchR_holds (h2 e)⟩
 | .need _ _,⟨h1,h2⟩=>⟨h1,catchR_holds h2⟩
 | .fail,h=>h
theorem noted_on {outer:List Env} {e T:Addr} {oe oT:Obj} {vs ts:Array Value} {a0:Value} {L:Addr} {fe:Env} {Q:Unit→Shared→Prop} {E:Value→Shared→Prop} {fr:Addr→Prop} (hA:A.frames=some (fe :: outer)) (hL:fe.frame=some L)
  (hfr:∀ x∈(fe :: outer),x.scope.kind≠.module∧∃ L,x.frame=some L∧fr L) (hl:∀ b,fr b→∃ o,s.heap.get? b=some o∧∀ vs,o.data≠.fields vs)
  (he:s.heap.get? e=some oe) (hd:oe.data=.fields vs) (h0:vs[0]?=some a0) (h1:vs[1]?=some (.ref T)) (hne:T≠e) (hT:s.heap.get? T=some oT) (hdT:oT.data=.fields ts) (h3:ts[3]?=some .none)
  (h:∀ h',(∀ a o,s.heap.get? a=some o→a≠e→a≠T→Kept fr h' a o)→(∃ oe' vs' T oT ts,h'.get? e=some oe'∧oe'.cls=oe.cls∧oe'.data=.fields vs'∧vs'[0]?=some a0∧vs'[1]?=some (.ref T)∧T≠e∧(∀ o,s.heap.get? T=some o→∃ us,o.data=.fields us∧(T=e∨∃ T',vs[1]?=some (.ref T')∧T=T'))∧h'.get? T=some oT∧oT.data=.fields ts∧ts[3]?=some (rawInt L))→Q () { s with heap:=h' }) :
  wpAny (model prog w) A (noteFrame (.ref e) fe) Q E s:=by
 let as:List Addr:=(fe :: outer).filterMap (·.frame)++[e,T]
 have mem:∀ x∈(fe :: outer),∀ a,x.frame=some a→a∈as:=fun x hx a ha=>List.mem_append_left _ (List.mem_filterMap.mpr ⟨x,hx,ha⟩)
 have hfl:=funFrames_of (h:=s.heap) (as:=as) hl hfr mem
 have hen:(hideAll s.heap as).get? e=none:=hideAll_none _ (List.mem_append_right _ (by simp))
 have hTn:(hideAll s.heap as).get? T=none:=hideAll_none _ (List.mem_append_right _ (by simp))
 have frOf:∀ b,b∈(fe :: outer).filterMap (·.frame)→fr b:=fun b hb=>by
  obtain ⟨x,hx,hxb⟩:=List.mem_filterMap.mp hb
  obtain ⟨_,L',f1,f2⟩:=hfr x hx
  rw [hxb] at f1
  injection f1 with f1
  subst f1; exact f2
 refine wpAny_noteFrame_onW (base:=hideAll s.heap as) (cls:=oe.cls) (a0:=a0) hA hfl hL ⟨oe,vs,T,oT,ts,he,⟨rfl,h0⟩,hd,h1,hTn,hne,hT,hdT,h3⟩ (fun b o q=>of_hideAll _ q) hen fun h' hN=>h h' (fun a o q ha haT=>?_) ?_
 ·obtain ⟨k1,_,_,k4⟩:=hN
  by_cases hm:a∈(fe :: outer).filterMap (·.frame)
  ·have hfa:=frOf a hm
   obtain ⟨o',q',nf⟩:=hl a hfa
   rw [q] at q'
   injection q' with q'
   subst q'
   obtain ⟨t,e'⟩:=k4 a o q nf
   exact ⟨t,e',.inl hfa⟩
  ·exact .of (k1 a o (hideAll_get _ q fun z=>(List.mem_append.mp z).elim hm fun z=>by
    rcases List.mem_cons.mp z with z | z
    ·exact ha z
    ·exact haT (by simpa using z)))
 ·obtain ⟨k1,k2,⟨oe',vs',T',oT',ts',t1,⟨t2,t3⟩,t4,t5,t6,t7,t8,t9,t10⟩,k4⟩:=hN
  refine ⟨oe',vs',T',oT',ts',t1,t2,t4,t3,t5,t7,fun o q=>?_,t8,t9,t10⟩
  by_cases hm:T'∈(fe :: outer).filterMap (·.frame)
  ·obtain ⟨_,o',q',nf⟩:=k2.mem hm
   rw [t8] at q'
   injection q' with q'
   subst q'
   exact absurd t9 (nf ts')
  ·by_cases hTT:T'=T
   ·subst hTT
    rw [hT] at q
    injection q with q
    subst q
    exact ⟨ts,hdT,.inr ⟨_,h1,rfl⟩⟩
   ·rw [hideAll_get _ q fun z=>(List.mem_append.mp z).elim hm fun z=>by
     rcases List.mem_cons.mp z with z | z
     ·exact t7 z
     ·exact hTT (by simpa using z)] at t6
    exact nomatch t6
def refBody (k1 k2:Nat) (p1 p2 p3 p4 p5 p6 p7 p8 p9 p10 p11 p12:Pos):List Stmt:=
 [.Try [.Expr (.Call (.Name "encode" p1) [.Name "name" p2,.Name "fields" p3] [] p4) p5] [.ExceptHandler (some (.Name "AssemblyFault" p6)) none [.Return (some (.Constant (.bool true) k1 p7)) p8] p9] [] [] p10,.Return (some (.Constant (.bool false) k2 p11)) p12]
theorem refused_ok {C:Ctx} {G:Heap} {a Ca N fI ae:Addr} {params:Arguments} {sc:Scope} {fe:Fn} {k1 k2:Nat} {p1 p2 p3 p4 p5 p6 p7 p8 p9 p10 p11 p12:Pos} (D:DefAt G a "_law_is_refused" params (refBody k1 k2 p1 p2 p3 p4 p5 p6 p7 p8 p9 p10 p11 p12) sc ["name","fields"])
  (hX:AFat G Ca N fI) (hm:∃ mg,G.Ns mainGlobals mg∧mg "AssemblyFault" = some (.ref Ca)∧mg "encode" = some (.ref ae)) (hae:∃ o fd,G.get? ae=some o∧o.data=.func fd) (hfe:RaiseFn prog w G Ca ae fe) (hh:fe.height+1≤d)
  (hn1:sc.names.lookup ("AssemblyFault" : Str)=some .globalImplicit) (hn2:sc.names.lookup ("encode" : Str)=some .globalImplicit) :
  PureFn prog w G a ⟨d,fun args=>guardB (Nat.beq args.length 2) (catchR (fe.spec args))⟩:=by
 intro X fr s A vs avs P Q E hGs hXX hfrX hfrs hfr r hv h hQ
 obtain ⟨hz,h⟩:=guardB_holds h
 have hz:avs.length=2:=Nat.eq_of_beq_eq_true hz
 have h:=catchR_holds h
 obtain ⟨o,pm,cd,doc,g1,g2,g3⟩:=D.get
 obtain ⟨mg,m1,m2,m3⟩:=hm
 obtain ⟨oe,fde,q1,q2⟩:=hae
 have hlen:=hv.length
 rw [hz] at hlen
 match vs,hlen,hv with
 | [v1,v2],_,hv=>
 refine wpAny_call (call_plain (binds:=(["name","fields"]:List Str).zip [v1,v2]) (by have:=r.depth; omega) (hGs a o g1) g2 (D.lim.keeps hGs) (g3.keeps hGs) (D.bind pm cd doc _ rfl) (fun x hx=>D.locs (List.of_mem_zip hx).1) (fun h₁ hF=>?_) D.co D.gen D.kind (fun x hx=>(D.noCell x hx).1))
 let L:=s.heap.objs.size
 let env:=envOf "_law_is_refused" sc L a cd
 let A':=A.deeper env
 have nL:∀ b o,s.heap.get? b=some o→b≠L:=fun b o e q=>by rw [q,get_size] at e; exact nomatch e
 have k1':env.kindOf ("name" : Str)=some .local:=D.locs (by simp)
 have k2':env.kindOf ("fields" : Str)=some .local:=D.locs (by simp)
 let m:Str→Option Value:=fun x=>((["name","fields"]:List Str).zip [v1,v2]).reverse.lookup x
 have loc:∀ {M:Model} {A:Around} {E:Value→Shared→Prop} {x:Str} {p:Pos} {v:Value} {s:Shared} {Q:Value→Shared→Prop},env.kindOf x=some .local→s.heap.Ns L m→m x=some v→Q v s→(x==("__debug__" : Str))=false→wpAny M A (eval (.Name x p) env) Q E s:=
  fun k n v q d=>wpAny_Name (wpAny_loadName_local D.kind k n v q) d
 let s₁:Shared:={ s with heap:=h₁,toks:=s.toks+((["name","fields"]:List Str).zip [v1,v2]).length }
 have base₁:∀ b o,G.get? b=some o→s₁.heap.get? b=some o:=fun b o e=>hF.keep b o (hGs b o e)
 have gL:G.get? L=none:=by
  cases e:G.get? L with
  | none=>rfl
  | some o=>have:=hGs _ o e; rw [get_size] at this; exact nomatch this
 let X':Addr→Prop:=fun b=>X b∨b=L
 let fr':Addr→Prop:=fun b=>fr b∨b=L
 have nsL:∃ o,s₁.heap.get? L=some o∧∀ vs,o.data≠.fields vs:=by
  obtain ⟨o,es,ep,e,dd,_⟩:=hF.ns
  exact ⟨o,e,fun vs q=>by rw [dd] at q; exact nomatch q⟩
 have hX':∀ b,X' b→G.get? b=none∧∃ o,s₁.heap.get? b=some o:=fun b hb=>by
  rcases hb with hb | hb
  ·obtain ⟨z1,o,z2⟩:=hXX b hb
   exact ⟨z1,o,hF.keep b o z2⟩
  ·subst hb
   obtain ⟨o,e,_⟩:=nsL
   exact ⟨gL,o,e⟩
 have hfrs':∀ b,fr' b→∃ o,s₁.heap.get? b=some o∧∀ vs,o.data≠.fields vs:=fun b hb=>by
  rcases hb with hb | hb
  ·obtain ⟨o,z1,z2⟩:=hfrs b hb
   exact ⟨o,hF.keep b o z1,z2⟩
  ·subst hb; exact nsL
 obtain ⟨outer,hA,hAl⟩:=id hfr
 have hA':A'.frames=some (env :: outer):=by
  show A.frames.map _=_
  rw [hA]; rfl
 have hfrl:∀ x∈(env :: outer),x.scope.kind≠.module∧∃ L,x.frame=some L∧fr' L:=fun x hx=>by
  rcases List.mem_cons.mp hx with q | q
  ·subst q
   exact ⟨by show sc.kind≠_; rw [D.kind]; decide,L,rfl,.inr rfl⟩
  ·obtain ⟨k,L',f1,f2⟩:=hAl x q
   exact ⟨k,L',f1,.inl f2⟩
 have hfr':FramesAt fr' A':=⟨_,hA',hfrl⟩
 have hv':HasL prog w (VX X' s₁.heap) [] avs [v1,v2]:=HasL.mono prog w (fun b o z=>⟨hF.keep b o z.1,fun y=>y.elim z.2.1 (nL b o z.1),z.2.2⟩) (fun _ _ e=>e) _ _ hv
 have r':Room A' d:=r.deeper _
 -- what is kept from the start of the call
 have toFr:∀ (s₂:Shared),(∀ b o,s₁.heap.get? b=some o→Kept fr' s₂.heap b o)→∀ b o,s.heap.get? b=some o→Kept fr s₂.heap b o:=fun s₂ k b o e=>by
  obtain ⟨t,z1,z2⟩:=k b o (hF.keep b o e)
  exact ⟨t,z1,z2.imp (fun z=>z.resolve_right (nL b o e)) id⟩
 have ret:∀ (s₂:Shared) (b:Bool),(∀ b o,s.heap.get? b=some o→Kept fr s₂.heap b o)→s₂.gens=s.gens→s₂.drawn=s.drawn→s₂.os=s.os→P (.bool b)→Q (.bool b) s₂:=fun s₂ b k e1 e2 e3 hp=>hQ (.bool b) s₂ (.bool b) ⟨k,e1,e2,e3⟩ rfl hp
 refine wpAny_execs_cons (wpAny_Try_except ?_)
 refine wpAny_execs_cons (wpAny_Expr_any ?_ (by unfold interactive; rw [show env.scope.kind=_ from D.kind]; rfl) rfl)
 refine Call_Name rfl (Name_function_global D.kind hn2 (loadGlobal_global (mg:=mg) (m1.keeps base₁) m3 ?_) (by decide))
 refine callWith_function (o:=oe) (fd:=fde) (evalArgs_of rfl ?_)
 refine spliced_cons (loc k1' hF.ns rfl (spliced_cons (loc k2' hF.ns rfl (spliced_nil ⟨⟨base₁ _ _ q1,q2⟩,?_⟩) (by decide))) (by decide))
 refine hfe X' fr' s₁ A' [v1,v2] avs _ _ _ _ base₁ hX' (fun b hb=>hb.imp (hfrX b) id) hfrs' hfr' (r'.less hh) hv' h (fun v s₂ av g hav hp=>?_) (fun hp e s₂ fl=>?_)
 ·-- it did not raise
  refine wpAny_execs_nil (wpAny_execs_nil ?_)
  refine wpAny_execs_cons (wpAny_Return_some (wpAny_Constant_bool ?_))
  exact ret s₂ false (toFr s₂ g.keep) g.gens g.drawn g.os hp
 ·-- it raised
  obtain ⟨kp,hg,hdr,hos,x,oe₂,vs₂,t,T,oT,ts,rfl,x1,x2,x3,x4,x5,x6,x7,x8,x9,x10,x11⟩:=fl
  have hl₂:∀ b,fr' b→∃ o,s₂.heap.get? b=some o∧∀ vs,o.data≠.fields vs:=fun b hb=>by
   obtain ⟨o,z1,z2⟩:=hfrs' b hb
   obtain ⟨o',z3,z4⟩:=(kp b o z1).some
   exact ⟨o',z3,fun vs=>z4 ▸ z2 vs⟩
  refine noted_on hA' rfl hfrl hl₂ x1 x3 x4 x5 x6 x7 x8 x9 fun h₃ kp₃ ⟨oe₃,vs₃,T₃,oT₃,ts₃,y1,y2,y3,y4,y5,y6,y7,y8,y9,y10⟩=>?_
  have T₃new:s₁.heap.get? T₃=none:=by
   cases e:s₁.heap.get? T₃ with
   | none=>rfl
   | some o=>
    obtain ⟨o',z1,_⟩:=(kp T₃ o e).some
    obtain ⟨us,_,z2⟩:=y7 o' z1
    rcases z2 with z2 | ⟨T',z2,z3⟩
    ·exact absurd z2 y6
    ·rw [x5] at z2
     injection z2 with z2
     injection z2 with z2
     rw [z3,← z2,x11] at e; exact nomatch e
  have kp₁₃:∀ b o,s₁.heap.get? b=some o→Kept fr' h₃ b o:=fun b o e=>(kp b o e).trans fun o' e'=>kp₃ b o' e' (fun z=>by rw [z,x10] at e; cases e) (fun z=>by rw [z,x11] at e; cases e)
  refine landed_ok (s:={ s₂ with heap:=h₃ }) y1 y3 y5 y8 y9 y10 fun h₄ oT₄ kp₄ z1 z2=>?_
  have hsz:3<ts₃.size:=(Array.getElem?_eq_some_iff.mp y10).1
  have e₄:h₄.get? x=some oe₃:=kp₄ x oe₃ (Ne.symm y6) y1
  have kp₁₄:∀ b o,s₁.heap.get? b=some o→Kept fr' h₄ b o:=fun b o e=>(kp₁₃ b o e).trans fun o' e'=>.of (kp₄ b o' (fun z=>by rw [z,T₃new] at e; cases e) e')
  have base₄:∀ b o,G.get? b=some o→h₄.get? b=some o:=fun b o e=>(kp₁₄ b o (base₁ b o e)).exact fun q=>by
   rw [(hX' b (q.imp (hfrX b) id)).1] at e; exact nomatch e
  obtain ⟨⟨nm,q,bs,sn,sub,ab,col,dd,c0,c1,c2,c3,c5,hC⟩,_⟩:=id hX
  refine wpAny_handleBy_cons (codeAny_handlers_test ?_) (by intro q; cases q)
  refine Name_function_global D.kind hn1 (loadGlobal_global (mg:=mg) (m1.keeps base₄) m2 ?_) (by decide)
  refine wpAny_excMatches_sub_self (h:=h₄) (base₄ _ _ hC) e₄ (y2.trans x2) PySem.F.excBase_Exception.hasBase ?_
  refine codeAny_handlers_suite ?_
  refine landed_ok (s:={ s₂ with heap:=h₄ }) e₄ y3 y5 z1 z2 (v3:=.none) (by simp [hsz]) fun h₅ oT₅ kp₅ w1 w2=>?_
  refine wpAny_execs_cons (wpAny_Return_some (wpAny_Constant_bool ?_))
  exact ret { s₂ with heap:=h₅ } true (toFr { s₂ with heap:=h₅ } fun b o e=>(kp₁₄ b o e).trans fun o' e'=>.of (kp₅ b o' (fun z=>by rw [z,T₃new] at e; cases e) e')) hg hdr hos hp
end Mine
end
section
open PySem.SeqAt
namespace Mine
variable {prog:Program} {w:World} {h:Heap} {K:Frag}
mutual
def chk (K:Frag):Nat→AV→Value→Bool
 | 0,_,_=>false
 | _+1,.none,v=>(match v with | .none=>true | _=>false)
 | _+1,.bool b,v=>(match v with | .bool c=>b==c | _=>false)
 | _+1,.num i,v=>(match v with | .int j _=>decide (i=j) | _=>false)
 | _+1,.str s,v=>(match v with | .str t _=>s==t | _=>false)
 | n+1,.tup l,v=>(match v with
  | .ref a=>(match K.lookup a with
   | some ⟨.type c,none,.seq xs _,sl⟩=>!(Nat.beq a sysModules)&&(c == "tuple")&&Nat.beq sl.size 0&&chkL K n l xs.toList
   | _=>false)
  | _=>false)
 | n+1,.lst l,v=>(match v with
  | .ref a=>(match K.lookup a with
   | some ⟨.type c,none,.seq xs _,sl⟩=>!(Nat.beq a sysModules)&&(c == "list")&&Nat.beq sl.size 0&&chkL K n l xs.toList
   | _=>false)
  | _=>false)
 | _,_,_=>false
def chkL (K:Frag):Nat→List AV→List Value→Bool
 | 0,_,_=>false
 | _+1,[],vs=>(match vs with | []=>true | _=>false)
 | n+1,x :: l,vs=>(match vs with | v :: r=>chk K n x v&&chkL K n l r | []=>false)
end
theorem notSm {a:Addr} (h:(!(Nat.beq a sysModules))=true):(a==sysModules)=false:=by
 rw [Bool.not_eq_true'] at h
 exact beq_eq_false_iff_ne.mpr fun e=>by rw [e,Nat.beq_refl] at h; cases h
mutual
theorem chk_has (X:K.In h):∀ (n:Nat) (t:AV) (v:Value),chk K n t v=true→Has prog w (VX (fun _=>False) h) [] t v
 | 0,_,_,e=>by simp [chk] at e
 | n+1,.none,v,e=>by
  cases v<;>simp only [chk,reduceCtorEq,Bool.false_eq_true] at e
  exact rfl
 | n+1,.bool b,v,e=>by
  cases v<;>simp only [chk,reduceCtorEq,Bool.false_eq_true] at e
  rw [eq_of_beq e]; exact rfl
 | n+1,.num i,v,e=>by
  cases v<;>simp only [chk,reduceCtorEq,Bool.false_eq_true] at e
  rw [of_decide_eq_true e]; exact ⟨_,rfl⟩
 | n+1,.str s,v,e=>by
  cases v<;>simp only [chk,reduceCtorEq,Bool.false_eq_true] at e
  rw [eq_of_beq e]; exact ⟨_,rfl⟩
 | n+1,.tup l,v,e=>by
  simp only [chk] at e
  split at e
  ·rename_i a
   split at e
   ·rename_i c xs k sl hl
    simp only [Bool.and_eq_true] at e
    obtain ⟨⟨⟨e1,e2⟩,e3⟩,e4⟩:=e
    have e2:c = "tuple" := eq_of_beq e2
    have e3:sl=#[]:=Array.size_eq_zero_iff.mp (Nat.eq_of_beq_eq_true e3)
    subst e2 e3
    exact ⟨a,xs.toList,k,rfl,⟨X a _ hl,fun q=>q,notSm e1⟩,chkL_has X n l _ e4⟩
   ·cases e
  ·cases e
 | n+1,.lst l,v,e=>by
  simp only [chk] at e
  split at e
  ·rename_i a
   split at e
   ·rename_i c xs k sl hl
    simp only [Bool.and_eq_true] at e
    obtain ⟨⟨⟨e1,e2⟩,e3⟩,e4⟩:=e
    have e2:c = "list" := eq_of_beq e2
    have e3:sl=#[]:=Array.size_eq_zero_iff.mp (Nat.eq_of_beq_eq_true e3)
    subst e2 e3
    exact ⟨a,xs.toList,k,rfl,⟨X a _ hl,fun q=>q,notSm e1⟩,chkL_has X n l _ e4⟩
   ·cases e
  ·cases e
 | n+1,.sb _,v,e=>by simp [chk] at e
 | n+1,.sym _,v,e=>by simp [chk] at e
 | n+1,.ints _,v,e=>by simp [chk] at e
 | n+1,.dS _ _,v,e=>by simp [chk] at e
 | n+1,.dI _ _,v,e=>by simp [chk] at e
 | n+1,.rng _ _ _,v,e=>by simp [chk] at e
 | n+1,.ite _ _ _,v,e=>by simp [chk] at e
 | n+1,.loc _,v,e=>by simp [chk] at e
theorem chkL_has (X:K.In h):∀ (n:Nat) (l:List AV) (vs:List Value),chkL K n l vs=true→HasL prog w (VX (fun _=>False) h) [] l vs
 | 0,_,_,e=>by simp [chkL] at e
 | n+1,[],vs,e=>by
  cases vs<;>simp only [chkL,reduceCtorEq,Bool.false_eq_true] at e
  exact rfl
 | n+1,x :: l,vs,e=>by
  cases vs with
  | nil=>simp [chkL] at e
  | cons v r=>
   simp only [chkL,Bool.and_eq_true] at e
   exact ⟨v,r,rfl,chk_has X n x v e.1,chkL_has X n l r e.2⟩
end
def keysSB:List Str→List DictEntry→Bool
 | [],es=>(match es with | []=>true | _=>false)
 | k :: ks,es=>(match es with
  | e :: r=>(match e.key with | .str t _=>k==t | _=>false)&&keysSB ks r
  | []=>false)
def keysIB:List Int→List DictEntry→Bool
 | [],es=>(match es with | []=>true | _=>false)
 | k :: ks,es=>(match es with
  | e :: r=>(match e.key with | .int t _=>decide (k=t) | _=>false)&&keysIB ks r
  | []=>false)
def HashesAre {α:Type} (f:α→Int):List α→List DictEntry→Prop
 | [],_=>True
 | k :: ks,es=>(match es with | e :: r=>e.hash=f k∧HashesAre f ks r | []=>False)
theorem keysSB_ok:∀ {ks:List Str} {es:List DictEntry},keysSB ks es=true→HashesAre (hashStr w) ks es→ks.length=es.length∧(∀ e∈es,∃ k,(PySem.strKind prog w).is k e.key=true∧e.hash=(PySem.strKind prog w).hash k)∧Pairs (PySem.strKind prog w) es (ks.zip (es.map (·.val)))
 | [],[],_,_=>⟨rfl,fun _ h=>(nomatch h),.nil⟩
 | [],_ :: _,h,_=>nomatch h
 | _ :: _,[],h,_=>nomatch h
 | k :: ks,e :: es,h,hh=>by
  simp only [keysSB,Bool.and_eq_true] at h
  obtain ⟨h1,h2⟩:=h
  obtain ⟨g1,g2⟩:=hh
  obtain ⟨i1,i2,i3⟩:=keysSB_ok h2 g2
  split at h1
  ·rename_i t tk hk
   have:=eq_of_beq h1
   subst this
   have his:(PySem.strKind prog w).is k e.key=true:=by rw [hk]; exact strKind_is prog w k tk
   refine ⟨by simp [i1],fun e' he=>?_,.cons his rfl i3⟩
   rcases List.mem_cons.mp he with q | q
   ·subst q; exact ⟨k,his,g1⟩
   ·exact i2 e' q
  ·cases h1
theorem keysIB_ok:∀ {ks:List Int} {es:List DictEntry},keysIB ks es=true→HashesAre hashInt ks es→ks.length=es.length∧(∀ e∈es,∃ k,(intKind prog w).is k e.key=true∧e.hash=(intKind prog w).hash k)∧Pairs (intKind prog w) es (ks.zip (es.map (·.val)))
 | [],[],_,_=>⟨rfl,fun _ h=>(nomatch h),.nil⟩
 | [],_ :: _,h,_=>nomatch h
 | _ :: _,[],h,_=>nomatch h
 | k :: ks,e :: es,h,hh=>by
  simp only [keysIB,Bool.and_eq_true] at h
  obtain ⟨h1,h2⟩:=h
  obtain ⟨g1,g2⟩:=hh
  obtain ⟨i1,i2,i3⟩:=keysIB_ok h2 g2
  split at h1
  ·rename_i t tk hk
   have:=of_decide_eq_true h1
   subst this
   have his:(intKind prog w).is k e.key=true:=by rw [hk]; exact intKind_is prog w k tk
   refine ⟨by simp [i1],fun e' he=>?_,.cons his rfl i3⟩
   rcases List.mem_cons.mp he with q | q
   ·subst q; exact ⟨k,his,g1⟩
   ·exact i2 e' q
  ·cases h1
theorem has_dS {n:Nat} {a:Addr} {ks:List Str} {l:List AV} {es:Array DictEntry} {ep:Nat} (X:K.In h) (e:K.lookup a=some { cls:=.type "dict",data:=.dict es ep }) (hs:(!(Nat.beq a sysModules))=true) (hk:keysSB ks es.toList=true) (hh:HashesAre (hashStr w) ks es.toList)
  (hn:ks.Nodup) (hv:chkL K n l (es.toList.map (·.val))=true):Has prog w (VX (fun _=>False) h) [] (.dS ks l) (.ref a):=by
 obtain ⟨i1,i2,i3⟩:=keysSB_ok (prog:=prog) hk hh
 refine ⟨a,_,es.toList.map (·.val),rfl,⟨X a _ e,fun q=>q,notSm hs⟩,⟨es,ep,⟨rfl,rfl,rfl⟩,rfl,fun x hx=>i2 x (by simpa using hx),i3,?_⟩,by simp [i1],chkL_has X n l _ hv⟩
 rw [List.map_fst_zip (by simp [i1])]; exact hn
theorem has_dI {n:Nat} {a:Addr} {ks:List Int} {l:List AV} {es:Array DictEntry} {ep:Nat} (X:K.In h) (e:K.lookup a=some { cls:=.type "dict",data:=.dict es ep }) (hs:(!(Nat.beq a sysModules))=true) (hk:keysIB ks es.toList=true) (hh:HashesAre hashInt ks es.toList)
  (hn:ks.Nodup) (hv:chkL K n l (es.toList.map (·.val))=true):Has prog w (VX (fun _=>False) h) [] (.dI ks l) (.ref a):=by
 obtain ⟨i1,i2,i3⟩:=keysIB_ok (prog:=prog) (w:=w) hk hh
 refine ⟨a,_,es.toList.map (·.val),rfl,⟨X a _ e,fun q=>q,notSm hs⟩,⟨es,ep,⟨rfl,rfl,rfl⟩,rfl,fun x hx=>i2 x (by simpa using hx),i3,?_⟩,by simp [i1],chkL_has X n l _ hv⟩
 rw [List.map_fst_zip (by simp [i1])]; exact hn
theorem gok_add {C:Ctx} {G:Heap} {f:Str} {a:Addr} {fn:Nat} {sp:List AV→R AV} (hG:GOK prog w C G) (hm:∀ mg,G.Ns mainGlobals mg→mg f=some (.ref a)) (ho:∃ o fd,G.get? a=some o∧o.data=.func fd) (hf:PureFn prog w G a ⟨fn,sp⟩) (hn:∀ l,NoExc (sp l)) :
  GOK prog w { C with funs:=(f,⟨fn,sp⟩) :: C.funs } G:=by
 obtain ⟨mg,mb,n1,n2,n3,n4,n5,n6⟩:=hG.names
 refine ⟨⟨mg,mb,n1,n2,n3,n4,fun g fn' e=>?_,n6⟩⟩
 rw [List.lookup_cons] at e
 split at e
 ·rename_i q
  injection e with e
  subst e
  have:=eq_of_beq q
  subst this
  obtain ⟨o,fd,e1,e2⟩:=ho
  exact ⟨a,o,fd,hm mg n1,e1,e2,hf,hn⟩
 ·exact n5 g fn' e
theorem gok_addW {C:Ctx} {G:Heap} {f:Str} {a:Addr} {fn:WFn} (hG:GOK prog w C G) (hm:∀ mg,G.Ns mainGlobals mg→mg f=some (.ref a)) (ho:∃ o fd,G.get? a=some o∧o.data=.func fd) (hf:WellFn prog w G a fn) (hn:∀ x l,NoExc (fn.spec x l)) :
  GOK prog w { C with wfuns:=(f,fn) :: C.wfuns } G:=by
 obtain ⟨mg,mb,n1,n2,n3,n4,n5,n6⟩:=hG.names
 refine ⟨⟨mg,mb,n1,n2,n3,n4,n5,fun g fn' e=>?_⟩⟩
 rw [List.lookup_cons] at e
 split at e
 ·rename_i q
  injection e with e
  subst e
  have:=eq_of_beq q
  subst this
  obtain ⟨o,fd,e1,e2⟩:=ho
  exact ⟨a,o,fd,hm mg n1,e1,e2,hf,hn⟩
 ·exact n6 g fn' e
def Sub (prog:Program) (w:World) (av av':AV):Prop:=∀ (V:Vis) (v:Value),Has prog w V [] av v→Has prog w V [] av' v
theorem PureFn.weaken {G:Heap} {a:Addr} {n:Nat} {sp sp':List AV→R AV} (h:PureFn prog w G a ⟨n,sp⟩) (hw:∀ (args:List AV) (P:AV→Prop),(sp' args).Holds P False→(sp args).Holds (fun av=>∃ av',P av'∧Sub prog w av av') False):PureFn prog w G a ⟨n,sp'⟩:=
 fun X fr s A vs avs P Q E h1 h2 h3 h4 h5 h6 h7 h8 h9=>h X fr s A vs avs _ Q E h1 h2 h3 h4 h5 h6 h7 (hw avs P h8) fun v s' av g hh ⟨av',hp,hs⟩=>h9 v s' av' g (hs _ v hh) hp
theorem WellFn.weaken {G:Heap} {a:Addr} {n:Nat} {sp sp':List AV→List AV→R (List AV×AV)} (h:WellFn prog w G a ⟨n,sp⟩) (hw:∀ (items args:List AV) (P:List AV×AV→Prop),(sp' items args).Holds P False→(sp items args).Holds P False):WellFn prog w G a ⟨n,sp'⟩:=
 fun X fr s A wa ws m items vs avs P Q E h1 h2 h3 h4 h5 h6 h7 h8 h9 h10 h11 h12 h13=>h X fr s A wa ws m items vs avs P Q E h1 h2 h3 h4 h5 h6 h7 h8 h9 h10 h11 (hw items avs P h12) h13
mutual
def eqAV:AV→AV→Bool
 | .none,y=>(match y with | .none=>true | _=>false)
 | .bool a,y=>(match y with | .bool b=>a==b | _=>false)
 | .num a,y=>(match y with | .num b=>decide (a=b) | _=>false)
 | .str a,y=>(match y with | .str b=>a==b | _=>false)
 | .tup l,y=>(match y with | .tup m=>eqAVL l m | _=>false)
 | .lst l,y=>(match y with | .lst m=>eqAVL l m | _=>false)
 | .dS ks l,y=>(match y with | .dS js m=>decide (ks=js)&&eqAVL l m | _=>false)
 | .dI ks l,y=>(match y with | .dI js m=>decide (ks=js)&&eqAVL l m | _=>false)
 | _,_=>false
def eqAVL:List AV→List AV→Bool
 | [],m=>(match m with | []=>true | _=>false)
 | x :: l,m=>(match m with | y :: r=>eqAV x y&&eqAVL l r | []=>false)
end
mutual
theorem eqAV_eq:∀ {x y:AV},eqAV x y=true→x=y
 | .none,y,h=>by cases y<;>simp_all [eqAV]
 | .bool a,y,h=>by cases y<;>simp_all [eqAV]
 | .num a,y,h=>by cases y<;>simp_all [eqAV]
 | .str a,y,h=>by cases y<;>simp_all [eqAV]
 | .tup l,y,h=>by cases y<;>simp only [eqAV,reduceCtorEq,Bool.false_eq_true] at h; rw [eqAVL_eq h]
 | .lst l,y,h=>by cases y<;>simp only [eqAV,reduceCtorEq,Bool.false_eq_true] at h; rw [eqAVL_eq h]
 | .dS ks l,y,h=>by
  cases y<;>simp only [eqAV,reduceCtorEq,Bool.false_eq_true,Bool.and_eq_true,decide_eq_true_eq] at h
  rw [h.1,eqAVL_eq h.2]
 | .dI ks l,y,h=>by
  cases y<;>simp only [eqAV,reduceCtorEq,Bool.false_eq_true,Bool.and_eq_true,decide_eq_true_eq] at h
  rw [h.1,eqAVL_eq h.2]
 | .sb _,y,h=>by simp [eqAV] at h
 | .sym _,y,h=>by simp [eqAV] at h
 | .ints _,y,h=>by simp [eqAV] at h
 | .rng _ _ _,y,h=>by simp [eqAV] at h
 | .ite _ _ _,y,h=>by simp [eqAV] at h
 | .loc _,y,h=>by simp [eqAV] at h
theorem eqAVL_eq:∀ {x y:List AV},eqAVL x y=true→x=y
 | [],y,h=>by cases y<;>simp_all [eqAVL]
 | x :: l,y,h=>by
  cases y with
  | nil=>simp [eqAVL] at h
  | cons z m=>
   simp only [eqAVL,Bool.and_eq_true] at h
   rw [eqAV_eq h.1,eqAVL_eq h.2]
end
def eqR (x:R AV) (v:AV):Bool:=match x with | .ret a=>eqAV a v | _=>false
theorem eqR_eq {x:R AV} {v:AV} (h:eqR x v=true):x=.ret v:=by
 unfold eqR at h
 split at h
 ·rw [eqAV_eq h]
 ·cases h
end Mine
end
section
namespace Mine
section
def bodyAt (i:Nat):List Stmt:=match PySem.Challenge.pw_nm0009_01.main.body[i]? with | some (.FunctionDef _ _ b _ _ _ _ _ _ _)=>b | _=>[]
def scopeAt (i:Nat):PySem.Scope:=match PySem.Challenge.pw_nm0009_01.main.body[i]? with | some (.FunctionDef _ _ _ _ _ _ s _ _ _)=>s | _=>default
def clo (v:AV):List AV→R AV:=fun args=>match args with | []=>.ret v | _=>.fail
def run (C:Ctx) (d i:Nat) (xs:List Str):List AV→R AV:=fun args=>noX (specF C d 60 (scopeAt i) (bodyAt i) xs args)
def formsL:List Str:=["R","I","H","S","B","U","J","F","E"]
def drawL:List AV:=[v_BR,v_BI,v_BH,v_BS,v_BB,v_BU,v_BJ,v_BF,v_BE]
def bitsT:List AV→R AV:=fun args=>match args with
 | [.str f]=>(match lookS formsL drawL f with | some v=>.ret v | none=>.fail)
 | _=>.fail
def byopT:List AV→R AV:=fun args=>match args with
 | [x]=>.need (x=v_ROWS) (.ret v_BYOP)
 | _=>.fail
def c0:Ctx:=⟨globs,[],[],false⟩
def Ctx.add (C:Ctx) (f:Str) (h:Nat) (sp:List AV→R AV):Ctx:={ C with funs:=(f,⟨h,sp⟩) :: C.funs }
def c1:Ctx:=c0.add "_law_pictures" 0 (clo v_P)
def c2:Ctx:=c1.add "_law_keys" 0 (clo v_K)
def c3:Ctx:=c2.add "_law_groups" 0 (clo v_G)
def c4:Ctx:=c3.add "_law_wrong_names" 0 (clo v_W)
def c5:Ctx:=c4.add "_law_no_instructions" 0 (clo v_N)
def c6:Ctx:=c5.add "register_number" 0 (run c5 0 16 ["text"])
def c7:Ctx:=c6.add "signed" 0 (run c6 0 17 ["value","width"])
def c8:Ctx:=c7.add "high_part" 0 (run c7 0 18 ["value"])
def c9:Ctx:=c8.add "low_part" 1 (run c8 1 19 ["value"])
def c10:Ctx:=c9.add "fits" 0 (run c9 0 20 ["name","imm"])
def c11:Ctx:=c10.add "imm_bits" 0 (run c10 0 21 ["form","imm"])
def c12:Ctx:=c11.add "imm_mask" 1 (run c11 1 22 ["form"])
def c13:Ctx:=c12.add "imm_of" 1 (run c12 1 23 ["form","word"])
def c14:Ctx:=c13.add "with_imm" 2 (run c13 2 24 ["word","form","imm"])
def c15:Ctx:=c14.add "_law_fields" 1 (run c14 1 42 ["form","known"])
def c16:Ctx:=c15.add "_law_laid" 0 (run c15 0 40 ["drawing","known"])
def c17:Ctx:=c16.add "_law_with" 0 (run c16 0 43 ["fields","key","value"])
def c18:Ctx:=c17.add "_law_rows" 1 (clo v_ROWS)
def c19:Ctx:=c18.add "_law_bits" 1 bitsT
def c20:Ctx:=c19.add "_law_by_opcode" 1 byopT
end
end Mine
end
section
namespace MineH
section
abbrev pw:Program:=PySem.Challenge.pw_nm0009_01
def fdP (i:Nat):Arguments:=match pw.main.body[i]? with | some (.FunctionDef _ a _ _ _ _ _ _ _ _)=>a | _=>default
def fdB (i:Nat):List Stmt:=match pw.main.body[i]? with | some (.FunctionDef _ _ b _ _ _ _ _ _ _)=>b | _=>[]
def fdS (i:Nat):Scope:=match pw.main.body[i]? with | some (.FunctionDef _ _ _ _ _ _ s _ _ _)=>s | _=>default
def sv (x:String) (t:Nat):Value:=.str (Str.ofString x) t
def iv (n t:Nat):Value:=.int (Int.ofNat n) t
def ke (P:Params) (x:String) (t:Nat) (v:Value):DictEntry:=⟨PyData.keyHash P (Str.ofString x),.str (Str.ofString x) t,v⟩
def ki (n t:Nat) (v:Value):DictEntry:=⟨Int.ofNat n,.int (Int.ofNat n) t,v⟩
def ob (c:String) (d:Data):Obj:=⟨.type c,none,d,[].toArray⟩
def fs (l:List Value):Data:=.fields l.toArray
def sq (l:List Value):Data:=.seq l.toArray 0
def dc (l:List DictEntry) (n:Nat):Data:=.dict l.toArray n
def tu (l:List Value):Obj:=ob "tuple" (sq l)
def si (n:Nat):Obj:=ob "StopIteration" (fs [.ref n,.none,.none,.none,.bool false,.none])
def ti:Obj:=ob "tuple_iterator" (fs [.none,iv 2 0])
def co (x:String) (t a b c d e:Nat) (l:List Value) (u:Nat):Obj:=ob "code" (fs ([sv x t,sv x (t+1),sv "/claim/cut.py" (t+2),iv a 0,iv b 0,iv c 0,iv d 0,iv e 0]++l++[iv u 0,iv a 0,sv "/claim/cut.py" (u+1)]))
abbrev Q:=Params→Obj
def iniP:Arguments:=match pw.main.body[1]? with | some (PySem.Stmt.ClassDef _ _ _ ((PySem.Stmt.FunctionDef _ a _ _ _ _ _ _ _ _) :: _) _ _ _ _ _ _ _)=>a | _=>default
def iniB:List Stmt:=match pw.main.body[1]? with | some (PySem.Stmt.ClassDef _ _ _ ((PySem.Stmt.FunctionDef _ _ b _ _ _ _ _ _ _) :: _) _ _ _ _ _ _ _)=>b | _=>[]
def iniS:Scope:=match pw.main.body[1]? with | some (PySem.Stmt.ClassDef _ _ _ ((PySem.Stmt.FunctionDef _ _ _ _ _ _ s _ _ _) :: _) _ _ _ _ _ _ _)=>s | _=>default
def fi (g:Nat) (m c:Value):FuncData:=⟨Str.ofString "__init__",Str.ofString "AssemblyFault.__init__",iniP,.stmts iniB,iniS,g,[],.none,.none,.none,m,none,c,.none,0⟩
def fu (x:String) (i:Nat) (m:Value) (c:Nat):Obj:=⟨.type "function",none,.func ⟨Str.ofString x,Str.ofString x,fdP i,.stmts (fdB i),fdS i,3,[],.none,.none,.none,m,none,.ref c,.none,0⟩,[].toArray⟩
def o2:Q:=fun P=>⟨.none,none,(.dict [ke P "type.__subclasses__.Exception.0" 216 (iv 31 0),ke P "type.__subclasses__.Exception.n" 217 (iv 1 0)].toArray 2),[].toArray⟩
def o3:Q:=fun P=>ob "dict" (dc [ke P "__name__" 165 (sv "law_nm0009_01" 1124),ke P "__doc__" 166 .none,ke P "__package__" 167 .none,ke P "__loader__" 168 (.builtin "__main__.__loader__#opaque"),ke P "__spec__" 169 .none,ke P "__annotations__" 170 (.ref 6),ke P "__builtins__" 171 (.ref 4),ke P "__file__" 173 (sv "/claim/cut.py" 172),ke P "__cached__" 174 .none,ke P "AssemblyFault" 219 (.ref 31),ke P "REGISTER_NAMES" 254 (.ref 35),ke P "LUI" 256 (iv 55 255),ke P "AUIPC" 258 (iv 23 257),ke P "JAL" 260 (iv 111 259),ke P "WITH_IMM" 262 (iv 19 261),ke P "WITH_REG" 264 (iv 51 263),ke P "FENCE" 266 (iv 15 265),ke P "SYSTEM" 268 (iv 115 267),ke P "INSTRUCTIONS" 461 (.ref 36),ke P "PLACES" 506 (.ref 87),ke P "BOUNDS" 546 (.ref 110),ke P "numbers_by_name" 555 (.ref 124),ke P "REGISTER_NUMBERS" 816 (.ref 126),ke P "register_number" 823 (.ref 265),ke P "signed" 832 (.ref 272),ke P "high_part" 839 (.ref 279),ke P "low_part" 846 (.ref 286),ke P "fits" 857 (.ref 293),ke P "imm_bits" 865 (.ref 300),ke P "imm_mask" 872 (.ref 307),ke P "imm_of" 881 (.ref 314),ke P "with_imm" 890 (.ref 321),ke P "encode" 903 (.ref 328),ke P "names_by_base" 909 (.ref 333),ke P "NAMES_BY_BASE" 1102 (.ref 337),ke P "name_of" 1111 (.ref 539),ke P "decode" 1123 (.ref 546),ke P "_law_pictures" 1131 (.ref 553),ke P "_law_turns" 1168 (.ref 554),ke P "_law_groups" 1174 (.ref 563),ke P "_law_keys" 1180 (.ref 570),ke P "_law_wrong_names" 1186 (.ref 577),ke P "_law_no_instructions" 1192 (.ref 584),ke P "_law_draw" 1204 (.ref 591),ke P "_law_rows" 1216 (.ref 598),ke P "_law_bits" 1229 (.ref 605),ke P "_law_laid" 1240 (.ref 612),ke P "_law_read" 1253 (.ref 619),ke P "_law_fields" 1264 (.ref 626),ke P "_law_with" 1275 (.ref 633),ke P "_law_is_refused" 1283 (.ref 640),ke P "_law_is_number_right" 1289 (.ref 645),ke P "_law_is_form_right" 1314 (.ref 652),ke P "_law_by_opcode" 1320 (.ref 657),ke P "_law_is_turned_right" 1338 (.ref 664),ke P "_law_are_parts_right" 1349 (.ref 671),ke P "_law_are_registers_right" 1355 (.ref 676),ke P "law" 1361 (.ref 681)] 58)
def o11:Q:=fun _=>tu []
def o12:Q:=fun _=>⟨.none,none,(.fields [iv 2 0,iv 0 0,.ref 20,iv 20 0,iv 0 0,.ref 123,iv 27 0,iv 0 0,.ref 264,iv 29 0,iv 0 0,.ref 271,iv 32 0,iv 0 0,.ref 278,iv 34 0,iv 0 0,.ref 285,iv 36 0,iv 0 0,.ref 292,iv 39 0,iv 0 0,.ref 299,iv 53 0,iv 0 0,.ref 306,iv 55 0,iv 0 0,.ref 313,iv 71 0,iv 0 0,.ref 320,iv 73 0,iv 0 0,.ref 327,iv 87 0,iv 0 0,.ref 332,iv 90 0,iv 0 0,.ref 538,iv 101 0,iv 0 0,.ref 545,iv 113 0,iv 0 0,.ref 552,iv 116 0,iv 0 0,.ref 562,iv 118 0,iv 0 0,.ref 569,iv 120 0,iv 0 0,.ref 576,iv 122 0,iv 0 0,.ref 583,iv 124 0,iv 0 0,.ref 590,iv 137 0,iv 0 0,.ref 597,iv 144 0,iv 0 0,.ref 604,iv 152 0,iv 0 0,.ref 611,iv 157 0,iv 0 0,.ref 618,iv 165 0,iv 0 0,.ref 625,iv 171 0,iv 0 0,.ref 632,iv 179 0,iv 0 0,.ref 639,iv 185 0,iv 0 0,.ref 644,iv 205 0,iv 0 0,.ref 651,iv 223 0,iv 0 0,.ref 656,iv 231 0,iv 0 0,.ref 663,iv 241 0,iv 0 0,.ref 670,iv 246 0,iv 0 0,.ref 675,iv 252 0,iv 0 0,.ref 680].toArray),[].toArray⟩
def o13:Q:=fun _=>co "<module>" 182 1 0 0 0 0 [.ref 11,(.bool false),iv 181 0,.ref 12,.none,.none,.none,.none] 185
def o14:Q:=fun _=>⟨(.type "frame"),none,.plain,[(some (.ref 13)),(some (.ref 3)),(some (.ref 3)),none,(some (sv "__main__" 164)),none,(some (.ref 0))].toArray⟩
def o15:Q:=fun _=>tu [(.type "Exception")]
def o22:Q:=fun _=>tu []
def o23:Q:=fun _=>⟨.none,none,(.fields [].toArray),[].toArray⟩
def o24:Q:=fun _=>tu [sv "self" 204,sv "word" 205,sv "line" 206]
def o25:Q:=fun _=>tu []
def o26:Q:=fun _=>⟨.none,none,.func (fi 0 .none .none),#[]⟩
def o27:Q:=fun _=>ob "code" (fs [sv "__init__" 201,sv "AssemblyFault.__init__" 202,sv "/claim/cut.py" 203,iv 4 0,iv 3 0,iv 0 0,iv 0 0,iv 3 0,.ref 22,(.bool true),iv 181 0,.ref 23,.none,.ref 24,.ref 25,.ref 26,iv 207 0,iv 4 0,sv "/claim/cut.py" 208])
def o28:Q:=fun _=>ob "function" (.func (fi 3 (sv "corecc.errors" 187) (.ref 27)))
def o29:Q:=fun _=>tu [sv "line" 210,sv "word" 211]
def o30:Q:=fun P=>ob "dict" (dc [ke P "__module__" 196 (sv "corecc.errors" 187),ke P "__firstlineno__" 200 (iv 2 199),ke P "__init__" 209 (.ref 28),ke P "__static_attributes__" 212 (.ref 29),ke P "__weakref__" 214 (.ref 32),ke P "__doc__" 215 .none] 3)
def o31:Q:=fun _=>excClassObj "AssemblyFault" "AssemblyFault" 31 30 [.type "Exception"] [.type "Exception",.type "BaseException",.type "object"] true [] [] false none none (some (.ref 15)) none (some (sv "AssemblyFault" 189)) (some (sv "AssemblyFault" 197)) (some (.bool true)) "Exception.__new__"
def o32:Q:=fun _=>ob "getset_descriptor" (fs [sv "__weakref__" 213,.ref 31,(.builtin "ExceptionGroup.__weakref__"),.none])
def o35:Q:=fun _=>ob "list" (sq [sv "zero" 222,sv "ra" 223,sv "sp" 224,sv "gp" 225,sv "tp" 226,sv "t0" 227,sv "t1" 228,sv "t2" 229,sv "s0" 230,sv "s1" 231,sv "a0" 232,sv "a1" 233,sv "a2" 234,sv "a3" 235,sv "a4" 236,sv "a5" 237,sv "a6" 238,sv "a7" 239,sv "s2" 240,sv "s3" 241,sv "s4" 242,sv "s5" 243,sv "s6" 244,sv "s7" 245,sv "s8" 246,sv "s9" 247,sv "s10" 248,sv "s11" 249,sv "t3" 250,sv "t4" 251,sv "t5" 252,sv "t6" 253])
def o36:Q:=fun P=>ob "dict" (dc [ke P "lui" 269 (.ref 37),ke P "auipc" 273 (.ref 38),ke P "jal" 277 (.ref 39),ke P "jalr" 281 (.ref 40),ke P "beq" 285 (.ref 41),ke P "bne" 289 (.ref 42),ke P "blt" 293 (.ref 43),ke P "bge" 297 (.ref 44),ke P "bltu" 301 (.ref 45),ke P "bgeu" 305 (.ref 46),ke P "lb" 309 (.ref 47),ke P "lh" 313 (.ref 48),ke P "lw" 317 (.ref 49),ke P "lbu" 321 (.ref 50),ke P "lhu" 325 (.ref 51),ke P "sb" 329 (.ref 52),ke P "sh" 333 (.ref 53),ke P "sw" 337 (.ref 55),ke P "addi" 341 (.ref 56),ke P "slti" 345 (.ref 57),ke P "sltiu" 349 (.ref 58),ke P "xori" 353 (.ref 59),ke P "ori" 357 (.ref 60),ke P "andi" 361 (.ref 61),ke P "slli" 365 (.ref 62),ke P "srli" 369 (.ref 63),ke P "srai" 373 (.ref 64),ke P "add" 377 (.ref 65),ke P "sub" 381 (.ref 66),ke P "sll" 385 (.ref 67),ke P "slt" 389 (.ref 68),ke P "sltu" 393 (.ref 69),ke P "xor" 397 (.ref 70),ke P "srl" 401 (.ref 71),ke P "sra" 405 (.ref 73),ke P "or" 408 (.ref 74),ke P "and" 411 (.ref 75),ke P "mul" 414 (.ref 76),ke P "mulh" 417 (.ref 77),ke P "mulhsu" 420 (.ref 78),ke P "mulhu" 423 (.ref 79),ke P "div" 426 (.ref 80),ke P "divu" 429 (.ref 81),ke P "rem" 432 (.ref 82),ke P "remu" 435 (.ref 83),ke P "fence" 438 (.ref 84),ke P "ecall" 441 (.ref 85),ke P "ebreak" 444 (.ref 86)] 48)
def o37:Q:=fun _=>tu [sv "U" 270,iv 55 271]
def o38:Q:=fun _=>tu [sv "U" 274,iv 23 275]
def o39:Q:=fun _=>tu [sv "J" 278,iv 111 279]
def o40:Q:=fun _=>tu [sv "I" 282,iv 103 283]
def o41:Q:=fun _=>tu [sv "B" 286,iv 99 287]
def o42:Q:=fun _=>tu [sv "B" 290,iv 4195 291]
def o43:Q:=fun _=>tu [sv "B" 294,iv 16483 295]
def o44:Q:=fun _=>tu [sv "B" 298,iv 20579 299]
def o45:Q:=fun _=>tu [sv "B" 302,iv 24675 303]
def o46:Q:=fun _=>tu [sv "B" 306,iv 28771 307]
def o47:Q:=fun _=>tu [sv "I" 310,iv 3 311]
def o48:Q:=fun _=>tu [sv "I" 314,iv 4099 315]
def o49:Q:=fun _=>tu [sv "I" 318,iv 8195 319]
def o50:Q:=fun _=>tu [sv "I" 322,iv 16387 323]
def o51:Q:=fun _=>tu [sv "I" 326,iv 20483 327]
def o52:Q:=fun _=>tu [sv "S" 330,iv 35 331]
def o53:Q:=fun _=>tu [sv "S" 334,iv 4131 335]
def o55:Q:=fun _=>tu [sv "S" 338,iv 8227 339]
def o56:Q:=fun _=>tu [sv "I" 342,iv 19 343]
def o57:Q:=fun _=>tu [sv "I" 346,iv 8211 347]
def o58:Q:=fun _=>tu [sv "I" 350,iv 12307 351]
def o59:Q:=fun _=>tu [sv "I" 354,iv 16403 355]
def o60:Q:=fun _=>tu [sv "I" 358,iv 24595 359]
def o61:Q:=fun _=>tu [sv "I" 362,iv 28691 363]
def o62:Q:=fun _=>tu [sv "H" 366,iv 4115 367]
def o63:Q:=fun _=>tu [sv "H" 370,iv 20499 371]
def o64:Q:=fun _=>tu [sv "H" 374,iv 1073762323 375]
def o65:Q:=fun _=>tu [sv "R" 378,iv 51 379]
def o66:Q:=fun _=>tu [sv "R" 382,iv 1073741875 383]
def o67:Q:=fun _=>tu [sv "R" 386,iv 4147 387]
def o68:Q:=fun _=>tu [sv "R" 390,iv 8243 391]
def o69:Q:=fun _=>tu [sv "R" 394,iv 12339 395]
def o70:Q:=fun _=>tu [sv "R" 398,iv 16435 399]
def o71:Q:=fun _=>tu [sv "R" 402,iv 20531 403]
def o73:Q:=fun _=>tu [sv "R" 406,iv 1073762355 407]
def o74:Q:=fun _=>tu [sv "R" 409,iv 24627 410]
def o75:Q:=fun _=>tu [sv "R" 412,iv 28723 413]
def o76:Q:=fun _=>tu [sv "R" 415,iv 33554483 416]
def o77:Q:=fun _=>tu [sv "R" 418,iv 33558579 419]
def o78:Q:=fun _=>tu [sv "R" 421,iv 33562675 422]
def o79:Q:=fun _=>tu [sv "R" 424,iv 33566771 425]
def o80:Q:=fun _=>tu [sv "R" 427,iv 33570867 428]
def o81:Q:=fun _=>tu [sv "R" 430,iv 33574963 431]
def o82:Q:=fun _=>tu [sv "R" 433,iv 33579059 434]
def o83:Q:=fun _=>tu [sv "R" 436,iv 33583155 437]
def o84:Q:=fun _=>tu [sv "F" 439,iv 15 440]
def o85:Q:=fun _=>tu [sv "E" 442,iv 115 443]
def o86:Q:=fun _=>tu [sv "E" 445,iv 1048691 446]
def o87:Q:=fun P=>ob "dict" (dc [ke P "R" 462 (.ref 91),ke P "I" 469 (.ref 94),ke P "H" 474 (.ref 97),ke P "S" 479 (.ref 100),ke P "B" 484 (.ref 103),ke P "U" 489 (.ref 105),ke P "J" 492 (.ref 107),ke P "F" 495 (.ref 108),ke P "E" 496 (.ref 109)] 9)
def o88:Q:=fun _=>tu [sv "rd" 463,iv 7 464]
def o89:Q:=fun _=>tu [sv "rs1" 465,iv 15 466]
def o90:Q:=fun _=>tu [sv "rs2" 467,iv 20 468]
def o91:Q:=fun _=>tu [.ref 88,.ref 89,.ref 90]
def o92:Q:=fun _=>tu [sv "rd" 470,iv 7 471]
def o93:Q:=fun _=>tu [sv "rs1" 472,iv 15 473]
def o94:Q:=fun _=>tu [.ref 92,.ref 93]
def o95:Q:=fun _=>tu [sv "rd" 475,iv 7 476]
def o96:Q:=fun _=>tu [sv "rs1" 477,iv 15 478]
def o97:Q:=fun _=>tu [.ref 95,.ref 96]
def o98:Q:=fun _=>tu [sv "rs1" 480,iv 15 481]
def o99:Q:=fun _=>tu [sv "rs2" 482,iv 20 483]
def o100:Q:=fun _=>tu [.ref 98,.ref 99]
def o101:Q:=fun _=>tu [sv "rs1" 485,iv 15 486]
def o102:Q:=fun _=>tu [sv "rs2" 487,iv 20 488]
def o103:Q:=fun _=>tu [.ref 101,.ref 102]
def o104:Q:=fun _=>tu [sv "rd" 490,iv 7 491]
def o105:Q:=fun _=>tu [.ref 104]
def o106:Q:=fun _=>tu [sv "rd" 493,iv 7 494]
def o107:Q:=fun _=>tu [.ref 106]
def o108:Q:=fun _=>tu []
def o109:Q:=fun _=>tu []
def o110:Q:=fun P=>ob "dict" (dc [ke P "I" 507 (.ref 111),ke P "H" 512 (.ref 112),ke P "S" 516 (.ref 113),ke P "B" 521 (.ref 114),ke P "U" 526 (.ref 115),ke P "J" 530 (.ref 116),ke P "F" 535 (.ref 117)] 7)
def o111:Q:=fun _=>tu [(.int (Int.negSucc 2047) 509),iv 2047 510,iv 1 511]
def o112:Q:=fun _=>tu [iv 0 513,iv 31 514,iv 1 515]
def o113:Q:=fun _=>tu [(.int (Int.negSucc 2047) 518),iv 2047 519,iv 1 520]
def o114:Q:=fun _=>tu [(.int (Int.negSucc 4095) 523),iv 4094 524,iv 2 525]
def o115:Q:=fun _=>tu [iv 0 527,iv 1048575 528,iv 1 529]
def o116:Q:=fun _=>tu [(.int (Int.negSucc 1048575) 532),iv 1048574 533,iv 2 534]
def o117:Q:=fun _=>tu [iv 0 536,iv 255 537,iv 1 538]
def o126:Q:=fun P=>ob "dict" (dc [ke P "fp" 556 (iv 8 557),ke P "zero" 222 (iv 0 560),ke P "x0" 566 (iv 0 560),ke P "ra" 223 (iv 1 568),ke P "x1" 574 (iv 1 568),ke P "sp" 224 (iv 2 576),ke P "x2" 582 (iv 2 576),ke P "gp" 225 (iv 3 584),ke P "x3" 590 (iv 3 584),ke P "tp" 226 (iv 4 592),ke P "x4" 598 (iv 4 592),ke P "t0" 227 (iv 5 600),ke P "x5" 606 (iv 5 600),ke P "t1" 228 (iv 6 608),ke P "x6" 614 (iv 6 608),ke P "t2" 229 (iv 7 616),ke P "x7" 622 (iv 7 616),ke P "s0" 230 (iv 8 624),ke P "x8" 630 (iv 8 624),ke P "s1" 231 (iv 9 632),ke P "x9" 638 (iv 9 632),ke P "a0" 232 (iv 10 640),ke P "x10" 646 (iv 10 640),ke P "a1" 233 (iv 11 648),ke P "x11" 654 (iv 11 648),ke P "a2" 234 (iv 12 656),ke P "x12" 662 (iv 12 656),ke P "a3" 235 (iv 13 664),ke P "x13" 670 (iv 13 664),ke P "a4" 236 (iv 14 672),ke P "x14" 678 (iv 14 672),ke P "a5" 237 (iv 15 680),ke P "x15" 686 (iv 15 680),ke P "a6" 238 (iv 16 688),ke P "x16" 694 (iv 16 688),ke P "a7" 239 (iv 17 696),ke P "x17" 702 (iv 17 696),ke P "s2" 240 (iv 18 704),ke P "x18" 710 (iv 18 704),ke P "s3" 241 (iv 19 712),ke P "x19" 718 (iv 19 712),ke P "s4" 242 (iv 20 720),ke P "x20" 726 (iv 20 720),ke P "s5" 243 (iv 21 728),ke P "x21" 734 (iv 21 728),ke P "s6" 244 (iv 22 736),ke P "x22" 742 (iv 22 736),ke P "s7" 245 (iv 23 744),ke P "x23" 750 (iv 23 744),ke P "s8" 246 (iv 24 752),ke P "x24" 758 (iv 24 752),ke P "s9" 247 (iv 25 760),ke P "x25" 766 (iv 25 760),ke P "s10" 248 (iv 26 768),ke P "x26" 774 (iv 26 768),ke P "s11" 249 (iv 27 776),ke P "x27" 782 (iv 27 776),ke P "t3" 250 (iv 28 784),ke P "x28" 790 (iv 28 784),ke P "t4" 251 (iv 29 792),ke P "x29" 798 (iv 29 792),ke P "t5" 252 (iv 30 800),ke P "x30" 806 (iv 30 800),ke P "t6" 253 (iv 31 808),ke P "x31" 814 (iv 31 808)] 65)
def o259:Q:=fun _=>tu []
def o260:Q:=fun _=>⟨.none,none,(.fields [].toArray),[].toArray⟩
def o261:Q:=fun _=>tu [sv "text" 820]
def o262:Q:=fun _=>tu []
def o263:Q:=fun _=>⟨.none,none,(.func ⟨(Str.ofString "register_number"),(Str.ofString "register_number"),fdP 16,.stmts (fdB 16),fdS 16,0,[],.none,.none,.none,.none,none,.none,.none,0⟩),[].toArray⟩
def o264:Q:=fun _=>co "register_number" 817 27 1 0 0 3 [.ref 259,(.bool true),iv 181 0,.ref 260,.none,.ref 261,.ref 262,.ref 263] 821
def o265:Q:=fun _=>fu "register_number" 16 (sv "corecc.rv32" 220) 264
def o266:Q:=fun _=>tu []
def o267:Q:=fun _=>⟨.none,none,(.fields [].toArray),[].toArray⟩
def o268:Q:=fun _=>tu [sv "value" 827,sv "width" 828,sv "low" 829]
def o269:Q:=fun _=>tu []
def o270:Q:=fun _=>⟨.none,none,(.func ⟨(Str.ofString "signed"),(Str.ofString "signed"),fdP 17,.stmts (fdB 17),fdS 17,0,[],.none,.none,.none,.none,none,.none,.none,0⟩),[].toArray⟩
def o271:Q:=fun _=>co "signed" 824 29 2 0 0 3 [.ref 266,(.bool true),iv 181 0,.ref 267,.none,.ref 268,.ref 269,.ref 270] 830
def o272:Q:=fun _=>fu "signed" 17 (sv "corecc.rv32" 220) 271
def o273:Q:=fun _=>tu []
def o274:Q:=fun _=>⟨.none,none,(.fields [].toArray),[].toArray⟩
def o275:Q:=fun _=>tu [sv "value" 836]
def o276:Q:=fun _=>tu []
def o277:Q:=fun _=>⟨.none,none,(.func ⟨(Str.ofString "high_part"),(Str.ofString "high_part"),fdP 18,.stmts (fdB 18),fdS 18,0,[],.none,.none,.none,.none,none,.none,.none,0⟩),[].toArray⟩
def o278:Q:=fun _=>co "high_part" 833 32 1 0 0 3 [.ref 273,(.bool true),iv 181 0,.ref 274,.none,.ref 275,.ref 276,.ref 277] 837
def o279:Q:=fun _=>fu "high_part" 18 (sv "corecc.rv32" 220) 278
def o280:Q:=fun _=>tu []
def o281:Q:=fun _=>⟨.none,none,(.fields [].toArray),[].toArray⟩
def o282:Q:=fun _=>tu [sv "value" 843]
def o283:Q:=fun _=>tu []
def o284:Q:=fun _=>⟨.none,none,(.func ⟨(Str.ofString "low_part"),(Str.ofString "low_part"),fdP 19,.stmts (fdB 19),fdS 19,0,[],.none,.none,.none,.none,none,.none,.none,0⟩),[].toArray⟩
def o285:Q:=fun _=>co "low_part" 840 34 1 0 0 3 [.ref 280,(.bool true),iv 181 0,.ref 281,.none,.ref 282,.ref 283,.ref 284] 844
def o286:Q:=fun _=>fu "low_part" 19 (sv "corecc.rv32" 220) 285
def o287:Q:=fun _=>tu []
def o288:Q:=fun _=>⟨.none,none,(.fields [].toArray),[].toArray⟩
def o289:Q:=fun _=>tu [sv "name" 850,sv "imm" 851,sv "least" 852,sv "most" 853,sv "by" 854]
def o290:Q:=fun _=>tu []
def o291:Q:=fun _=>⟨.none,none,(.func ⟨(Str.ofString "fits"),(Str.ofString "fits"),fdP 20,.stmts (fdB 20),fdS 20,0,[],.none,.none,.none,.none,none,.none,.none,0⟩),[].toArray⟩
def o292:Q:=fun _=>co "fits" 847 36 2 0 0 3 [.ref 287,(.bool true),iv 181 0,.ref 288,.none,.ref 289,.ref 290,.ref 291] 855
def o293:Q:=fun _=>fu "fits" 20 (sv "corecc.rv32" 220) 292
def o294:Q:=fun _=>tu []
def o295:Q:=fun _=>⟨.none,none,(.fields [].toArray),[].toArray⟩
def o296:Q:=fun _=>tu [sv "form" 861,sv "imm" 862]
def o297:Q:=fun _=>tu []
def o298:Q:=fun _=>⟨.none,none,(.func ⟨(Str.ofString "imm_bits"),(Str.ofString "imm_bits"),fdP 21,.stmts (fdB 21),fdS 21,0,[],.none,.none,.none,.none,none,.none,.none,0⟩),[].toArray⟩
def o299:Q:=fun _=>co "imm_bits" 858 39 2 0 0 3 [.ref 294,(.bool true),iv 181 0,.ref 295,.none,.ref 296,.ref 297,.ref 298] 863
def o300:Q:=fun _=>fu "imm_bits" 21 (sv "corecc.rv32" 220) 299
def o301:Q:=fun _=>tu []
def o302:Q:=fun _=>⟨.none,none,(.fields [].toArray),[].toArray⟩
def o303:Q:=fun _=>tu [sv "form" 869]
def o304:Q:=fun _=>tu []
def o305:Q:=fun _=>⟨.none,none,(.func ⟨(Str.ofString "imm_mask"),(Str.ofString "imm_mask"),fdP 22,.stmts (fdB 22),fdS 22,0,[],.none,.none,.none,.none,none,.none,.none,0⟩),[].toArray⟩
def o306:Q:=fun _=>co "imm_mask" 866 53 1 0 0 3 [.ref 301,(.bool true),iv 181 0,.ref 302,.none,.ref 303,.ref 304,.ref 305] 870
def o307:Q:=fun _=>fu "imm_mask" 22 (sv "corecc.rv32" 220) 306
def o308:Q:=fun _=>tu []
def o309:Q:=fun _=>⟨.none,none,(.fields [].toArray),[].toArray⟩
def o310:Q:=fun _=>tu [sv "form" 876,sv "word" 877,sv "high" 878]
def o311:Q:=fun _=>tu []
def o312:Q:=fun _=>⟨.none,none,(.func ⟨(Str.ofString "imm_of"),(Str.ofString "imm_of"),fdP 23,.stmts (fdB 23),fdS 23,0,[],.none,.none,.none,.none,none,.none,.none,0⟩),[].toArray⟩
def o313:Q:=fun _=>co "imm_of" 873 55 2 0 0 3 [.ref 308,(.bool true),iv 181 0,.ref 309,.none,.ref 310,.ref 311,.ref 312] 879
def o314:Q:=fun _=>fu "imm_of" 23 (sv "corecc.rv32" 220) 313
def o315:Q:=fun _=>tu []
def o316:Q:=fun _=>⟨.none,none,(.fields [].toArray),[].toArray⟩
def o317:Q:=fun _=>tu [sv "word" 885,sv "form" 886,sv "imm" 887]
def o318:Q:=fun _=>tu []
def o319:Q:=fun _=>⟨.none,none,(.func ⟨(Str.ofString "with_imm"),(Str.ofString "with_imm"),fdP 24,.stmts (fdB 24),fdS 24,0,[],.none,.none,.none,.none,none,.none,.none,0⟩),[].toArray⟩
def o320:Q:=fun _=>co "with_imm" 882 71 3 0 0 3 [.ref 315,(.bool true),iv 181 0,.ref 316,.none,.ref 317,.ref 318,.ref 319] 888
def o321:Q:=fun _=>fu "with_imm" 24 (sv "corecc.rv32" 220) 320
def o322:Q:=fun _=>tu []
def o323:Q:=fun _=>⟨.none,none,(.fields [].toArray),[].toArray⟩
def o324:Q:=fun _=>tu [sv "name" 894,sv "fields" 895,sv "form" 896,sv "found" 897,sv "key" 898,sv "shift" 899,sv "number" 900]
def o325:Q:=fun _=>tu []
def o326:Q:=fun _=>⟨.none,none,(.func ⟨(Str.ofString "encode"),(Str.ofString "encode"),fdP 25,.stmts (fdB 25),fdS 25,0,[],.none,.none,.none,.none,none,.none,.none,0⟩),[].toArray⟩
def o327:Q:=fun _=>co "encode" 891 73 2 0 0 3 [.ref 322,(.bool true),iv 181 0,.ref 323,.none,.ref 324,.ref 325,.ref 326] 901
def o328:Q:=fun _=>fu "encode" 25 (sv "corecc.rv32" 220) 327
def o337:Q:=fun _=>ob "dict" (dc [ki 55 271 (sv "lui" 269),ki 23 275 (sv "auipc" 273),ki 111 279 (sv "jal" 277),ki 103 283 (sv "jalr" 281),ki 99 287 (sv "beq" 285),ki 4195 291 (sv "bne" 289),ki 16483 295 (sv "blt" 293),ki 20579 299 (sv "bge" 297),ki 24675 303 (sv "bltu" 301),ki 28771 307 (sv "bgeu" 305),ki 3 311 (sv "lb" 309),ki 4099 315 (sv "lh" 313),ki 8195 319 (sv "lw" 317),ki 16387 323 (sv "lbu" 321),ki 20483 327 (sv "lhu" 325),ki 35 331 (sv "sb" 329),ki 4131 335 (sv "sh" 333),ki 8227 339 (sv "sw" 337),ki 19 343 (sv "addi" 341),ki 8211 347 (sv "slti" 345),ki 12307 351 (sv "sltiu" 349),ki 16403 355 (sv "xori" 353),ki 24595 359 (sv "ori" 357),ki 28691 363 (sv "andi" 361),ki 4115 367 (sv "slli" 365),ki 20499 371 (sv "srli" 369),ki 1073762323 375 (sv "srai" 373),ki 51 379 (sv "add" 377),ki 1073741875 383 (sv "sub" 381),ki 4147 387 (sv "sll" 385),ki 8243 391 (sv "slt" 389),ki 12339 395 (sv "sltu" 393),ki 16435 399 (sv "xor" 397),ki 20531 403 (sv "srl" 401),ki 1073762355 407 (sv "sra" 405),ki 24627 410 (sv "or" 408),ki 28723 413 (sv "and" 411),ki 33554483 416 (sv "mul" 414),ki 33558579 419 (sv "mulh" 417),ki 33562675 422 (sv "mulhsu" 420),ki 33566771 425 (sv "mulhu" 423),ki 33570867 428 (sv "div" 426),ki 33574963 431 (sv "divu" 429),ki 33579059 434 (sv "rem" 432),ki 33583155 437 (sv "remu" 435),ki 15 440 (sv "fence" 438),ki 115 443 (sv "ecall" 441),ki 1048691 446 (sv "ebreak" 444)] 48)
def o533:Q:=fun _=>tu []
def o534:Q:=fun _=>⟨.none,none,(.fields [].toArray),[].toArray⟩
def o535:Q:=fun _=>tu [sv "word" 1106,sv "opcode" 1107,sv "low" 1108]
def o536:Q:=fun _=>tu []
def o537:Q:=fun _=>⟨.none,none,(.func ⟨(Str.ofString "name_of"),(Str.ofString "name_of"),fdP 28,.stmts (fdB 28),fdS 28,0,[],.none,.none,.none,.none,none,.none,.none,0⟩),[].toArray⟩
def o538:Q:=fun _=>co "name_of" 1103 90 1 0 0 3 [.ref 533,(.bool true),iv 181 0,.ref 534,.none,.ref 535,.ref 536,.ref 537] 1109
def o539:Q:=fun _=>fu "name_of" 28 (sv "corecc.rv32" 220) 538
def o540:Q:=fun _=>tu []
def o541:Q:=fun _=>⟨.none,none,(.fields [].toArray),[].toArray⟩
def o542:Q:=fun _=>tu [sv "word" 1115,sv "name" 1116,sv "form" 1117,sv "fields" 1118,sv "key" 1119,sv "shift" 1120]
def o543:Q:=fun _=>tu []
def o544:Q:=fun _=>⟨.none,none,(.func ⟨(Str.ofString "decode"),(Str.ofString "decode"),fdP 29,.stmts (fdB 29),fdS 29,0,[],.none,.none,.none,.none,none,.none,.none,0⟩),[].toArray⟩
def o545:Q:=fun _=>co "decode" 1112 101 1 0 0 3 [.ref 540,(.bool true),iv 181 0,.ref 541,.none,.ref 542,.ref 543,.ref 544] 1121
def o546:Q:=fun _=>fu "decode" 29 (sv "corecc.rv32" 220) 545
def o547:Q:=fun _=>tu []
def o548:Q:=fun _=>⟨.none,none,(.fields [].toArray),[].toArray⟩
def o549:Q:=fun _=>tu []
def o550:Q:=fun _=>tu []
def o551:Q:=fun _=>⟨.none,none,(.func ⟨(Str.ofString "_law_pictures"),(Str.ofString "_law_pictures"),fdP 31,.stmts (fdB 31),fdS 31,0,[],.none,.none,.none,.none,none,.none,.none,0⟩),[].toArray⟩
def o552:Q:=fun _=>co "_law_pictures" 1126 113 0 0 0 3 [.ref 547,(.bool true),iv 181 0,.ref 548,.none,.ref 549,.ref 550,.ref 551] 1129
def o553:Q:=fun _=>fu "_law_pictures" 31 (sv "law_nm0009_01" 1124) 552
def o554:Q:=fun P=>ob "dict" (dc [ke P "B" 1132 (.ref 555),ke P "J" 1145 (.ref 556)] 2)
def o555:Q:=fun _=>ob "list" (sq [iv 12 1133,iv 10 1134,iv 9 1135,iv 8 1136,iv 7 1137,iv 6 1138,iv 5 1139,iv 4 1140,iv 3 1141,iv 2 1142,iv 1 1143,iv 11 1144])
def o556:Q:=fun _=>ob "list" (sq [iv 20 1146,iv 10 1147,iv 9 1148,iv 8 1149,iv 7 1150,iv 6 1151,iv 5 1152,iv 4 1153,iv 3 1154,iv 2 1155,iv 1 1156,iv 11 1157,iv 19 1158,iv 18 1159,iv 17 1160,iv 16 1161,iv 15 1162,iv 14 1163,iv 13 1164,iv 12 1165])
def o557:Q:=fun _=>tu []
def o558:Q:=fun _=>⟨.none,none,(.fields [].toArray),[].toArray⟩
def o559:Q:=fun _=>tu []
def o560:Q:=fun _=>tu []
def o561:Q:=fun _=>⟨.none,none,(.func ⟨(Str.ofString "_law_groups"),(Str.ofString "_law_groups"),fdP 33,.stmts (fdB 33),fdS 33,0,[],.none,.none,.none,.none,none,.none,.none,0⟩),[].toArray⟩
def o562:Q:=fun _=>co "_law_groups" 1169 116 0 0 0 3 [.ref 557,(.bool true),iv 181 0,.ref 558,.none,.ref 559,.ref 560,.ref 561] 1172
def o563:Q:=fun _=>fu "_law_groups" 33 (sv "law_nm0009_01" 1124) 562
def o564:Q:=fun _=>tu []
def o565:Q:=fun _=>⟨.none,none,(.fields [].toArray),[].toArray⟩
def o566:Q:=fun _=>tu []
def o567:Q:=fun _=>tu []
def o568:Q:=fun _=>⟨.none,none,(.func ⟨(Str.ofString "_law_keys"),(Str.ofString "_law_keys"),fdP 34,.stmts (fdB 34),fdS 34,0,[],.none,.none,.none,.none,none,.none,.none,0⟩),[].toArray⟩
def o569:Q:=fun _=>co "_law_keys" 1175 118 0 0 0 3 [.ref 564,(.bool true),iv 181 0,.ref 565,.none,.ref 566,.ref 567,.ref 568] 1178
def o570:Q:=fun _=>fu "_law_keys" 34 (sv "law_nm0009_01" 1124) 569
def o571:Q:=fun _=>tu []
def o572:Q:=fun _=>⟨.none,none,(.fields [].toArray),[].toArray⟩
def o573:Q:=fun _=>tu []
def o574:Q:=fun _=>tu []
def o575:Q:=fun _=>⟨.none,none,(.func ⟨(Str.ofString "_law_wrong_names"),(Str.ofString "_law_wrong_names"),fdP 35,.stmts (fdB 35),fdS 35,0,[],.none,.none,.none,.none,none,.none,.none,0⟩),[].toArray⟩
def o576:Q:=fun _=>co "_law_wrong_names" 1181 120 0 0 0 3 [.ref 571,(.bool true),iv 181 0,.ref 572,.none,.ref 573,.ref 574,.ref 575] 1184
def o577:Q:=fun _=>fu "_law_wrong_names" 35 (sv "law_nm0009_01" 1124) 576
def o578:Q:=fun _=>tu []
def o579:Q:=fun _=>⟨.none,none,(.fields [].toArray),[].toArray⟩
def o580:Q:=fun _=>tu []
def o581:Q:=fun _=>tu []
def o582:Q:=fun _=>⟨.none,none,(.func ⟨(Str.ofString "_law_no_instructions"),(Str.ofString "_law_no_instructions"),fdP 36,.stmts (fdB 36),fdS 36,0,[],.none,.none,.none,.none,none,.none,.none,0⟩),[].toArray⟩
def o583:Q:=fun _=>co "_law_no_instructions" 1187 122 0 0 0 3 [.ref 578,(.bool true),iv 181 0,.ref 579,.none,.ref 580,.ref 581,.ref 582] 1190
def o584:Q:=fun _=>fu "_law_no_instructions" 36 (sv "law_nm0009_01" 1124) 583
def o585:Q:=fun _=>tu []
def o586:Q:=fun _=>⟨.none,none,(.fields [].toArray),[].toArray⟩
def o587:Q:=fun _=>tu [sv "well" 1196,sv "sizes" 1197,sv "at" 1198,sv "value" 1199,sv "found" 1200,sv "size" 1201]
def o588:Q:=fun _=>tu []
def o589:Q:=fun _=>⟨.none,none,(.func ⟨(Str.ofString "_law_draw"),(Str.ofString "_law_draw"),fdP 37,.stmts (fdB 37),fdS 37,0,[],.none,.none,.none,.none,none,.none,.none,0⟩),[].toArray⟩
def o590:Q:=fun _=>co "_law_draw" 1193 124 2 0 0 3 [.ref 585,(.bool true),iv 181 0,.ref 586,.none,.ref 587,.ref 588,.ref 589] 1202
def o591:Q:=fun _=>fu "_law_draw" 37 (sv "law_nm0009_01" 1124) 590
def o592:Q:=fun _=>tu []
def o593:Q:=fun _=>⟨.none,none,(.fields [].toArray),[].toArray⟩
def o594:Q:=fun _=>tu [sv "found" 1208,sv "form" 1209,sv "opcode" 1210,sv "text" 1211,sv "parts" 1212,sv "at" 1213]
def o595:Q:=fun _=>tu []
def o596:Q:=fun _=>⟨.none,none,(.func ⟨(Str.ofString "_law_rows"),(Str.ofString "_law_rows"),fdP 38,.stmts (fdB 38),fdS 38,0,[],.none,.none,.none,.none,none,.none,.none,0⟩),[].toArray⟩
def o597:Q:=fun _=>co "_law_rows" 1205 137 0 0 0 3 [.ref 592,(.bool true),iv 181 0,.ref 593,.none,.ref 594,.ref 595,.ref 596] 1214
def o598:Q:=fun _=>fu "_law_rows" 38 (sv "law_nm0009_01" 1124) 597
def o599:Q:=fun _=>tu []
def o600:Q:=fun _=>⟨.none,none,(.fields [].toArray),[].toArray⟩
def o601:Q:=fun _=>tu [sv "form" 1220,sv "picture" 1221,sv "seen" 1222,sv "found" 1223,sv "sign" 1224,sv "at" 1225,sv "is_turned" 1226]
def o602:Q:=fun _=>tu []
def o603:Q:=fun _=>⟨.none,none,(.func ⟨(Str.ofString "_law_bits"),(Str.ofString "_law_bits"),fdP 39,.stmts (fdB 39),fdS 39,0,[],.none,.none,.none,.none,none,.none,.none,0⟩),[].toArray⟩
def o604:Q:=fun _=>co "_law_bits" 1217 144 1 0 0 3 [.ref 599,(.bool true),iv 181 0,.ref 600,.none,.ref 601,.ref 602,.ref 603] 1227
def o605:Q:=fun _=>fu "_law_bits" 39 (sv "law_nm0009_01" 1124) 604
def o606:Q:=fun _=>tu []
def o607:Q:=fun _=>⟨.none,none,(.fields [].toArray),[].toArray⟩
def o608:Q:=fun _=>tu [sv "drawing" 1233,sv "known" 1234,sv "found" 1235,sv "sign" 1236,sv "place" 1237]
def o609:Q:=fun _=>tu []
def o610:Q:=fun _=>⟨.none,none,(.func ⟨(Str.ofString "_law_laid"),(Str.ofString "_law_laid"),fdP 40,.stmts (fdB 40),fdS 40,0,[],.none,.none,.none,.none,none,.none,.none,0⟩),[].toArray⟩
def o611:Q:=fun _=>co "_law_laid" 1230 152 2 0 0 3 [.ref 606,(.bool true),iv 181 0,.ref 607,.none,.ref 608,.ref 609,.ref 610] 1238
def o612:Q:=fun _=>fu "_law_laid" 40 (sv "law_nm0009_01" 1124) 611
def o613:Q:=fun _=>tu []
def o614:Q:=fun _=>⟨.none,none,(.fields [].toArray),[].toArray⟩
def o615:Q:=fun _=>tu [sv "form" 1244,sv "drawing" 1245,sv "number" 1246,sv "known" 1247,sv "rest" 1248,sv "sign" 1249,sv "place" 1250]
def o616:Q:=fun _=>tu []
def o617:Q:=fun _=>⟨.none,none,(.func ⟨(Str.ofString "_law_read"),(Str.ofString "_law_read"),fdP 41,.stmts (fdB 41),fdS 41,0,[],.none,.none,.none,.none,none,.none,.none,0⟩),[].toArray⟩
def o618:Q:=fun _=>co "_law_read" 1241 157 3 0 0 3 [.ref 613,(.bool true),iv 181 0,.ref 614,.none,.ref 615,.ref 616,.ref 617] 1251
def o619:Q:=fun _=>fu "_law_read" 41 (sv "law_nm0009_01" 1124) 618
def o620:Q:=fun _=>tu []
def o621:Q:=fun _=>⟨.none,none,(.fields [].toArray),[].toArray⟩
def o622:Q:=fun _=>tu [sv "form" 1257,sv "known" 1258,sv "found" 1259,sv "letter" 1260,sv "key" 1261]
def o623:Q:=fun _=>tu []
def o624:Q:=fun _=>⟨.none,none,(.func ⟨(Str.ofString "_law_fields"),(Str.ofString "_law_fields"),fdP 42,.stmts (fdB 42),fdS 42,0,[],.none,.none,.none,.none,none,.none,.none,0⟩),[].toArray⟩
def o625:Q:=fun _=>co "_law_fields" 1254 165 2 0 0 3 [.ref 620,(.bool true),iv 181 0,.ref 621,.none,.ref 622,.ref 623,.ref 624] 1262
def o626:Q:=fun _=>fu "_law_fields" 42 (sv "law_nm0009_01" 1124) 625
def o627:Q:=fun _=>tu []
def o628:Q:=fun _=>⟨.none,none,(.fields [].toArray),[].toArray⟩
def o629:Q:=fun _=>tu [sv "fields" 1268,sv "key" 1269,sv "value" 1270,sv "found" 1271,sv "name" 1272]
def o630:Q:=fun _=>tu []
def o631:Q:=fun _=>⟨.none,none,(.func ⟨(Str.ofString "_law_with"),(Str.ofString "_law_with"),fdP 43,.stmts (fdB 43),fdS 43,0,[],.none,.none,.none,.none,none,.none,.none,0⟩),[].toArray⟩
def o632:Q:=fun _=>co "_law_with" 1265 171 3 0 0 3 [.ref 627,(.bool true),iv 181 0,.ref 628,.none,.ref 629,.ref 630,.ref 631] 1273
def o633:Q:=fun _=>fu "_law_with" 43 (sv "law_nm0009_01" 1124) 632
def o634:Q:=fun _=>tu []
def o635:Q:=fun _=>⟨.none,none,(.fields [].toArray),[].toArray⟩
def o636:Q:=fun _=>tu [sv "name" 1279,sv "fields" 1280]
def o637:Q:=fun _=>tu []
def o638:Q:=fun _=>⟨.none,none,(.func ⟨(Str.ofString "_law_is_refused"),(Str.ofString "_law_is_refused"),fdP 44,.stmts (fdB 44),fdS 44,0,[],.none,.none,.none,.none,none,.none,.none,0⟩),[].toArray⟩
def o639:Q:=fun _=>co "_law_is_refused" 1276 179 2 0 0 3 [.ref 634,(.bool true),iv 181 0,.ref 635,.none,.ref 636,.ref 637,.ref 638] 1281
def o640:Q:=fun _=>fu "_law_is_refused" 44 (sv "law_nm0009_01" 1124) 639
def o641:Q:=fun _=>tu []
def o642:Q:=fun _=>⟨.none,none,(.fields [].toArray),[].toArray⟩
def o643:Q:=fun _=>⟨.none,none,(.func ⟨(Str.ofString "_law_is_number_right"),(Str.ofString "_law_is_number_right"),fdP 45,.stmts (fdB 45),fdS 45,0,[],.none,.none,.none,.none,none,.none,.none,0⟩),[].toArray⟩
def o644:Q:=fun _=>co "_law_is_number_right" 1284 185 5 0 0 3 [.ref 641,(.bool true),iv 181 0,.ref 642,.none,.none,.none,.ref 643] 1287
def o645:Q:=fun _=>fu "_law_is_number_right" 45 (sv "law_nm0009_01" 1124) 644
def o646:Q:=fun _=>tu []
def o647:Q:=fun _=>⟨.none,none,(.fields [].toArray),[].toArray⟩
def o648:Q:=fun _=>tu [sv "well" 1293,sv "form" 1294,sv "drawing" 1295,sv "rows" 1296,sv "which" 1297,sv "rd" 1298,sv "one" 1299,sv "two" 1300,sv "value" 1301,sv "name" 1302,sv "fixed" 1303,sv "count" 1304,sv "pace" 1305,sv "known" 1306,sv "fields" 1307,sv "number" 1308,sv "key" 1309,sv "ill" 1310,sv "wrong" 1311]
def o649:Q:=fun _=>tu []
def o650:Q:=fun _=>⟨.none,none,(.func ⟨(Str.ofString "_law_is_form_right"),(Str.ofString "_law_is_form_right"),fdP 46,.stmts (fdB 46),fdS 46,0,[],.none,.none,.none,.none,none,.none,.none,0⟩),[].toArray⟩
def o651:Q:=fun _=>co "_law_is_form_right" 1290 205 4 0 0 3 [.ref 646,(.bool true),iv 181 0,.ref 647,.none,.ref 648,.ref 649,.ref 650] 1312
def o652:Q:=fun _=>fu "_law_is_form_right" 46 (sv "law_nm0009_01" 1124) 651
def o653:Q:=fun _=>tu []
def o654:Q:=fun _=>⟨.none,none,(.fields [].toArray),[].toArray⟩
def o655:Q:=fun _=>⟨.none,none,(.func ⟨(Str.ofString "_law_by_opcode"),(Str.ofString "_law_by_opcode"),fdP 47,.stmts (fdB 47),fdS 47,0,[],.none,.none,.none,.none,none,.none,.none,0⟩),[].toArray⟩
def o656:Q:=fun _=>co "_law_by_opcode" 1315 223 1 0 0 3 [.ref 653,(.bool true),iv 181 0,.ref 654,.none,.none,.none,.ref 655] 1318
def o657:Q:=fun _=>fu "_law_by_opcode" 47 (sv "law_nm0009_01" 1124) 656
def o658:Q:=fun _=>tu []
def o659:Q:=fun _=>⟨.none,none,(.fields [].toArray),[].toArray⟩
def o660:Q:=fun _=>tu [sv "known_rows" 1324,sv "pictures" 1325,sv "number" 1326,sv "first" 1327,sv "turn" 1328,sv "cell" 1329,sv "seen" 1330,sv "due" 1331,sv "name" 1332,sv "form" 1333,sv "mask" 1334,sv "fixed" 1335]
def o661:Q:=fun _=>tu []
def o662:Q:=fun _=>⟨.none,none,(.func ⟨(Str.ofString "_law_is_turned_right"),(Str.ofString "_law_is_turned_right"),fdP 48,.stmts (fdB 48),fdS 48,0,[],.none,.none,.none,.none,none,.none,.none,0⟩),[].toArray⟩
def o663:Q:=fun _=>co "_law_is_turned_right" 1321 231 4 0 0 3 [.ref 658,(.bool true),iv 181 0,.ref 659,.none,.ref 660,.ref 661,.ref 662] 1336
def o664:Q:=fun _=>fu "_law_is_turned_right" 48 (sv "law_nm0009_01" 1124) 663
def o665:Q:=fun _=>tu []
def o666:Q:=fun _=>⟨.none,none,(.fields [].toArray),[].toArray⟩
def o667:Q:=fun _=>tu [sv "value" 1342,sv "width" 1343,sv "cut" 1344,sv "low" 1345,sv "high" 1346]
def o668:Q:=fun _=>tu []
def o669:Q:=fun _=>⟨.none,none,(.func ⟨(Str.ofString "_law_are_parts_right"),(Str.ofString "_law_are_parts_right"),fdP 49,.stmts (fdB 49),fdS 49,0,[],.none,.none,.none,.none,none,.none,.none,0⟩),[].toArray⟩
def o670:Q:=fun _=>co "_law_are_parts_right" 1339 241 2 0 0 3 [.ref 665,(.bool true),iv 181 0,.ref 666,.none,.ref 667,.ref 668,.ref 669] 1347
def o671:Q:=fun _=>fu "_law_are_parts_right" 49 (sv "law_nm0009_01" 1124) 670
def o672:Q:=fun _=>tu []
def o673:Q:=fun _=>⟨.none,none,(.fields [].toArray),[].toArray⟩
def o674:Q:=fun _=>⟨.none,none,(.func ⟨(Str.ofString "_law_are_registers_right"),(Str.ofString "_law_are_registers_right"),fdP 50,.stmts (fdB 50),fdS 50,0,[],.none,.none,.none,.none,none,.none,.none,0⟩),[].toArray⟩
def o675:Q:=fun _=>co "_law_are_registers_right" 1350 246 1 0 0 3 [.ref 672,(.bool true),iv 181 0,.ref 673,.none,.none,.none,.ref 674] 1353
def o676:Q:=fun _=>fu "_law_are_registers_right" 50 (sv "law_nm0009_01" 1124) 675
def o677:Q:=fun _=>tu []
def o678:Q:=fun _=>⟨.none,none,(.fields [].toArray),[].toArray⟩
def o679:Q:=fun _=>⟨.none,none,(.func ⟨(Str.ofString "law"),(Str.ofString "law"),fdP 51,.stmts (fdB 51),fdS 51,0,[],.none,.none,.none,.none,none,.none,.none,0⟩),[].toArray⟩
def o680:Q:=fun _=>co "law" 1356 252 1 0 0 3 [.ref 677,(.bool true),iv 181 0,.ref 678,.none,.none,.none,.ref 679] 1359
def o681:Q:=fun _=>fu "law" 51 (sv "law_nm0009_01" 1124) 680
def q3 (P:Params):Obj:=ob "dict" (dc [ke P "__name__" 165 (sv "corecc.rv32" 220),ke P "__doc__" 166 .none,ke P "__package__" 167 .none,ke P "__loader__" 168 (.builtin "__main__.__loader__#opaque"),ke P "__spec__" 169 .none,ke P "__annotations__" 170 (.ref 6),ke P "__builtins__" 171 (.ref 4),ke P "__file__" 173 (sv "/claim/cut.py" 172),ke P "__cached__" 174 .none,ke P "AssemblyFault" 219 (.ref 31),ke P "REGISTER_NAMES" 254 (.ref 35),ke P "LUI" 256 (iv 55 255),ke P "AUIPC" 258 (iv 23 257),ke P "JAL" 260 (iv 111 259),ke P "WITH_IMM" 262 (iv 19 261),ke P "WITH_REG" 264 (iv 51 263),ke P "FENCE" 266 (iv 15 265),ke P "SYSTEM" 268 (iv 115 267),ke P "INSTRUCTIONS" 461 (.ref 36),ke P "PLACES" 506 (.ref 87),ke P "BOUNDS" 546 (.ref 110),ke P "numbers_by_name" 555 (.ref 124),ke P "REGISTER_NUMBERS" 816 (.ref 126),ke P "register_number" 823 (.ref 265),ke P "signed" 832 (.ref 272),ke P "high_part" 839 (.ref 279),ke P "low_part" 846 (.ref 286),ke P "fits" 857 (.ref 293),ke P "imm_bits" 865 (.ref 300),ke P "imm_mask" 872 (.ref 307),ke P "imm_of" 881 (.ref 314),ke P "with_imm" 890 (.ref 321),ke P "encode" 903 (.ref 328),ke P "names_by_base" 909 (.ref 333)] 34)
def q12 (P:Params):Obj:=⟨.none,none,(.fields [iv 2 0,iv 0 0,.ref 20,iv 20 0,iv 0 0,.ref 123,iv 27 0,iv 0 0,.ref 264,iv 29 0,iv 0 0,.ref 271,iv 32 0,iv 0 0,.ref 278,iv 34 0,iv 0 0,.ref 285,iv 36 0,iv 0 0,.ref 292,iv 39 0,iv 0 0,.ref 299,iv 53 0,iv 0 0,.ref 306,iv 55 0,iv 0 0,.ref 313,iv 71 0,iv 0 0,.ref 320,iv 73 0,iv 0 0,.ref 327,iv 87 0,iv 0 0,.ref 332].toArray),[].toArray⟩
def oL0 (P:Params):List Obj:=[o15 P,ob "builtin_function_or_method" (fs [(.builtin "type.__prepare__"),(.type "type")]),ob "dict" (dc [ke P "__module__" 196 (sv "corecc.errors" 187),ke P "__qualname__" 198 (sv "AssemblyFault" 197),ke P "__firstlineno__" 200 (iv 2 199),ke P "__init__" 209 (.ref 28),ke P "__static_attributes__" 212 (.ref 29)] 5),tu [],⟨.none,none,(.fields [iv 4 0,iv 4 0,.ref 27].toArray),[].toArray⟩,co "AssemblyFault" 191 2 0 0 0 0 [.ref 18,(.bool false),iv 181 0,.ref 19,.none,.none,.none,.none] 194,⟨(.type "frame"),none,.plain,[(some (.ref 20)),(some (.ref 3)),(some (.ref 17)),none,(some (sv "corecc.errors" 187)),none,(some (.ref 0))].toArray⟩,o22 P,o23 P,o24 P,o25 P,o26 P,o27 P,o28 P,o29 P,o30 P,o31 P,o32 P,ob "super" (fs [.ref 31,.ref 31,.ref 31]),ob "builtin_function_or_method" (fs [(.builtin "object.__init_subclass__"),.ref 31]),o35 P,o36 P,o37 P,o38 P,o39 P,o40 P,o41 P,o42 P,o43 P,o44 P,o45 P,o46 P,o47 P,o48 P,o49 P,o50 P,o51 P,o52 P,o53 P,ob "dict" (dc [ke P "sw" 337 (.ref 55),ke P "addi" 341 (.ref 56),ke P "slti" 345 (.ref 57),ke P "sltiu" 349 (.ref 58),ke P "xori" 353 (.ref 59),ke P "ori" 357 (.ref 60),ke P "andi" 361 (.ref 61),ke P "slli" 365 (.ref 62),ke P "srli" 369 (.ref 63),ke P "srai" 373 (.ref 64),ke P "add" 377 (.ref 65),ke P "sub" 381 (.ref 66),ke P "sll" 385 (.ref 67),ke P "slt" 389 (.ref 68),ke P "sltu" 393 (.ref 69),ke P "xor" 397 (.ref 70),ke P "srl" 401 (.ref 71)] 17),o55 P,o56 P,o57 P,o58 P,o59 P,o60 P,o61 P,o62 P,o63 P,o64 P,o65 P,o66 P,o67 P,o68 P,o69 P,o70 P,o71 P,ob "dict" (dc [ke P "sra" 405 (.ref 73),ke P "or" 408 (.ref 74),ke P "and" 411 (.ref 75),ke P "mul" 414 (.ref 76),ke P "mulh" 417 (.ref 77),ke P "mulhsu" 420 (.ref 78),ke P "mulhu" 423 (.ref 79),ke P "div" 426 (.ref 80),ke P "divu" 429 (.ref 81),ke P "rem" 432 (.ref 82),ke P "remu" 435 (.ref 83),ke P "fence" 438 (.ref 84),ke P "ecall" 441 (.ref 85),ke P "ebreak" 444 (.ref 86)] 14),o73 P,o74 P,o75 P,o76 P]
def oL1 (P:Params):List Obj:=[o77 P,o78 P,o79 P,o80 P,o81 P,o82 P,o83 P,o84 P,o85 P,o86 P,o87 P,o88 P,o89 P,o90 P,o91 P,o92 P,o93 P,o94 P,o95 P,o96 P,o97 P,o98 P,o99 P,o100 P,o101 P,o102 P,o103 P,o104 P,o105 P,o106 P,o107 P,o108 P,o109 P,o110 P,o111 P,o112 P,o113 P,o114 P,o115 P,o116 P,o117 P,tu [],⟨.none,none,(.fields [].toArray),[].toArray⟩,tu [sv "found" 550,sv "number" 551,sv "name" 552],tu [],⟨.none,none,(.func ⟨(Str.ofString "numbers_by_name"),(Str.ofString "numbers_by_name"),fdP 14,.stmts (fdB 14),fdS 14,0,[],.none,.none,.none,.none,none,.none,.none,0⟩),[].toArray⟩,co "numbers_by_name" 547 20 0 0 0 3 [.ref 118,(.bool true),iv 181 0,.ref 119,.none,.ref 120,.ref 121,.ref 122] 553,fu "numbers_by_name" 14 (sv "corecc.rv32" 220) 123,ob "frame" (dc [ke P "found" 559 (.ref 126),ke P "number" 561 (iv 31 808),ke P "name" 562 (sv "t6" 253)] 3),o126 P,ob "list_iterator" (fs [.none,iv 32 0]),ob "enumerate" (fs [.none,(.bool false),.ref 127,iv 32 0,.none,sv "t6" 253]),tu [iv 0 560,sv "zero" 222],ti,tu [],si 131,tu [iv 1 568,sv "ra" 223],ti,tu [],si 135,tu [iv 2 576,sv "sp" 224],ti]
def oL2 (P:Params):List Obj:=[tu [],si 139,tu [iv 3 584,sv "gp" 225],ti,tu [],si 143,tu [iv 4 592,sv "tp" 226],ti,tu [],si 147,tu [iv 5 600,sv "t0" 227],ti,tu [],si 151,tu [iv 6 608,sv "t1" 228],ti,tu [],si 155,tu [iv 7 616,sv "t2" 229],ti,tu [],si 159,tu [iv 8 624,sv "s0" 230],ti,tu [],si 163,tu [iv 9 632,sv "s1" 231],ti,tu [],si 167,tu [iv 10 640,sv "a0" 232],ti,tu [],si 171,tu [iv 11 648,sv "a1" 233],ti,tu [],si 175,tu [iv 12 656,sv "a2" 234],ti,tu [],si 179,tu [iv 13 664,sv "a3" 235],ti,tu [],si 183,tu [iv 14 672,sv "a4" 236],ti,tu [],si 187,tu [iv 15 680,sv "a5" 237],ti,tu [],si 191,tu [iv 16 688,sv "a6" 238],ti,tu [],si 195,tu [iv 17 696,sv "a7" 239],ti,tu [],si 199]
def oL3 (P:Params):List Obj:=[tu [iv 18 704,sv "s2" 240],ti,tu [],si 203,tu [iv 19 712,sv "s3" 241],ti,tu [],si 207,tu [iv 20 720,sv "s4" 242],ti,tu [],si 211,tu [iv 21 728,sv "s5" 243],ti,tu [],si 215,tu [iv 22 736,sv "s6" 244],ti,tu [],si 219,tu [iv 23 744,sv "s7" 245],ti,tu [],si 223,tu [iv 24 752,sv "s8" 246],ti,tu [],si 227,tu [iv 25 760,sv "s9" 247],ti,tu [],si 231,tu [iv 26 768,sv "s10" 248],ti,tu [],si 235,tu [iv 27 776,sv "s11" 249],ti,tu [],si 239,tu [iv 28 784,sv "t3" 250],ti,tu [],si 243,tu [iv 29 792,sv "t4" 251],ti,tu [],si 247,tu [iv 30 800,sv "t5" 252],ti,tu [],si 251,tu [iv 31 808,sv "t6" 253],ti,tu [],si 255,tu [],si 257,o259 P,o260 P,o261 P,o262 P]
def oL4 (P:Params):List Obj:=[o263 P,o264 P,o265 P,o266 P,o267 P,o268 P,o269 P,o270 P,o271 P,o272 P,o273 P,o274 P,o275 P,o276 P,o277 P,o278 P,o279 P,o280 P,o281 P,o282 P,o283 P,o284 P,o285 P,o286 P,o287 P,o288 P,o289 P,o290 P,o291 P,o292 P,o293 P,o294 P,o295 P,o296 P,o297 P,o298 P,o299 P,o300 P,o301 P,o302 P,o303 P,o304 P,o305 P,o306 P,o307 P,o308 P,o309 P,o310 P,o311 P,o312 P,o313 P,o314 P,o315 P,o316 P,o317 P,o318 P,o319 P,o320 P,o321 P,o322 P,o323 P,o324 P]
def oL5 (P:Params):List Obj:=[o325 P,o326 P,o327 P,o328 P,tu [],⟨.none,none,(.fields [].toArray),[].toArray⟩,⟨.none,none,(.func ⟨(Str.ofString "names_by_base"),(Str.ofString "names_by_base"),fdP 26,.stmts (fdB 26),fdS 26,0,[],.none,.none,.none,.none,none,.none,.none,0⟩),[].toArray⟩,co "names_by_base" 904 87 0 0 0 3 [.ref 329,(.bool true),iv 181 0,.ref 330,.none,.none,.none,.ref 331] 907,fu "names_by_base" 26 (sv "corecc.rv32" 220) 332,ob "frame" (dc [] 0),ob "dict_items" (fs [.ref 36]),ob "dict_itemiterator" (fs [.none,(.bool false),.none,iv 48 0,iv 48 0,iv 48 0,sv "ebreak" 444,.ref 86]),o337 P,ob "dict" (dc [] 4),tu [sv "lui" 269,.ref 37],ti,tu [],si 341,tu [sv "auipc" 273,.ref 38],ti,tu [],si 345,tu [sv "jal" 277,.ref 39],ti,tu [],si 349,tu [sv "jalr" 281,.ref 40],ti,tu [],si 353,tu [sv "beq" 285,.ref 41],ti,tu [],si 357,tu [sv "bne" 289,.ref 42],ti,tu [],si 361,tu [sv "blt" 293,.ref 43],ti,tu [],si 365,tu [sv "bge" 297,.ref 44],ti,tu [],si 369,tu [sv "bltu" 301,.ref 45],ti,tu [],si 373,tu [sv "bgeu" 305,.ref 46],ti,tu [],si 377,tu [sv "lb" 309,.ref 47],ti,tu [],si 381,tu [sv "lh" 313,.ref 48],ti,tu [],si 385]
def oL6 (P:Params):List Obj:=[tu [sv "lw" 317,.ref 49],ti,tu [],si 389,tu [sv "lbu" 321,.ref 50],ti,tu [],si 393,tu [sv "lhu" 325,.ref 51],ti,tu [],si 397,tu [sv "sb" 329,.ref 52],ti,tu [],si 401,tu [sv "sh" 333,.ref 53],ti,tu [],si 405,tu [sv "sw" 337,.ref 55],ti,tu [],si 409,tu [sv "addi" 341,.ref 56],ti,tu [],si 413,tu [sv "slti" 345,.ref 57],ti,tu [],si 417,tu [sv "sltiu" 349,.ref 58],ti,tu [],si 421,tu [sv "xori" 353,.ref 59],ti,tu [],si 425,tu [sv "ori" 357,.ref 60],ti,tu [],si 429,tu [sv "andi" 361,.ref 61],ti,tu [],si 433,tu [sv "slli" 365,.ref 62],ti,tu [],si 437,tu [sv "srli" 369,.ref 63],ti,tu [],si 441,tu [sv "srai" 373,.ref 64],ti,tu [],si 445,tu [sv "add" 377,.ref 65],ti]
def oL7 (P:Params):List Obj:=[tu [],si 449,tu [sv "sub" 381,.ref 66],ti,tu [],si 453,tu [sv "sll" 385,.ref 67],ti,tu [],si 457,tu [sv "slt" 389,.ref 68],ti,tu [],si 461,tu [sv "sltu" 393,.ref 69],ti,tu [],si 465,tu [sv "xor" 397,.ref 70],ti,tu [],si 469,tu [sv "srl" 401,.ref 71],ti,tu [],si 473,tu [sv "sra" 405,.ref 73],ti,tu [],si 477,tu [sv "or" 408,.ref 74],ti,tu [],si 481,tu [sv "and" 411,.ref 75],ti,tu [],si 485,tu [sv "mul" 414,.ref 76],ti,tu [],si 489,tu [sv "mulh" 417,.ref 77],ti,tu [],si 493,tu [sv "mulhsu" 420,.ref 78],ti,tu [],si 497,tu [sv "mulhu" 423,.ref 79],ti,tu [],si 501,tu [sv "div" 426,.ref 80],ti,tu [],si 505,tu [sv "divu" 429,.ref 81],ti,tu [],si 509]
def oL8 (P:Params):List Obj:=[tu [sv "rem" 432,.ref 82],ti,tu [],si 513,tu [sv "remu" 435,.ref 83],ti,tu [],si 517,tu [sv "fence" 438,.ref 84],ti,tu [],si 521,tu [sv "ecall" 441,.ref 85],ti,tu [],si 525,tu [sv "ebreak" 444,.ref 86],ti,tu [],si 529,tu [],si 531,o533 P,o534 P,o535 P,o536 P,o537 P,o538 P,o539 P,o540 P,o541 P,o542 P,o543 P,o544 P,o545 P,o546 P,o547 P,o548 P,o549 P,o550 P,o551 P,o552 P,o553 P,o554 P,o555 P,o556 P,o557 P,o558 P,o559 P,o560 P,o561 P,o562 P,o563 P,o564 P,o565 P,o566 P,o567 P,o568 P,o569 P,o570 P,o571 P,o572 P]
def oL9 (P:Params):List Obj:=[o573 P,o574 P,o575 P,o576 P,o577 P,o578 P,o579 P,o580 P,o581 P,o582 P,o583 P,o584 P,o585 P,o586 P,o587 P,o588 P,o589 P,o590 P,o591 P,o592 P,o593 P,o594 P,o595 P,o596 P,o597 P,o598 P,o599 P,o600 P,o601 P,o602 P,o603 P,o604 P,o605 P,o606 P,o607 P,o608 P,o609 P,o610 P,o611 P,o612 P,o613 P,o614 P,o615 P,o616 P,o617 P,o618 P,o619 P,o620 P,o621 P,o622 P,o623 P,o624 P,o625 P,o626 P,o627 P,o628 P,o629 P,o630 P,o631 P,o632 P,o633 P,o634 P]
def oL10 (P:Params):List Obj:=[o635 P,o636 P,o637 P,o638 P,o639 P,o640 P,o641 P,o642 P,o643 P,o644 P,o645 P,o646 P,o647 P,o648 P,o649 P,o650 P,o651 P,o652 P,o653 P,o654 P,o655 P,o656 P,o657 P,o658 P,o659 P,o660 P,o661 P,o662 P,o663 P,o664 P,o665 P,o666 P,o667 P,o668 P,o669 P,o670 P,o671 P,o672 P,o673 P,o674 P,o675 P,o676 P,o677 P,o678 P,o679 P,o680 P,o681 P]
def o11b (P:Params):Obj:=o11 P
def objsF (P:Params) (a b c:Obj):List Obj:=[PySem.W.boot_o_0 P,PySem.W.boot_o_1 P,a,b,PySem.W.boot_o_4 P,PySem.W.boot_o_5 P,PySem.W.boot_o_6 P,PySem.W.boot_o_7 P,PySem.W.boot_o_8 P,PySem.W.boot_o_9 P,PySem.W.boot_o_10 P,o11 P,c,o13 P,o14 P]
def objsM (P:Params):List Obj:=oL0 P++(oL1 P++(oL2 P++(oL3 P++(oL4 P++(oL5 P++(oL6 P++(oL7 P++(oL8 P++(oL9 P++(oL10 P))))))))))
def objsL (P:Params):List Obj:=objsF P (o2 P) (o3 P) (o12 P)++objsM P
def ev:Bool→List Obj→List Obj
 | _,[]=>[]
 | true,o :: l=>o :: ev false l
 | false,_ :: l=>ev true l
def bt:Nat→List Obj→BT
 | _,[]=>.nil
 | 0,_=>.nil
 | f+1,o :: l=>.node o (bt f (ev true l)) (bt f (ev false l))
def T4 (P:Params):BT:=bt 20 (objsF P (PySem.W.boot_o_2 P) (PySem.W.boot_o_3 P) ⟨.none,none,.fields #[],#[]⟩)
def T26 (P:Params):BT:=bt 20 (objsF P (o2 P) (q3 P) (q12 P)++(objsM P).take 319)
def T52 (P:Params):BT:=bt 20 (objsL P)
def envT:Env:={ scope:=pw.main.scope,locals:=PySem.mainNs,globals:=PySem.mainNs,cells:=[],code:=PySem.Value.ref 13,frame:=some 14 }
abbrev st0:List Stmt:=pw.main.body.take 27
abbrev st27:List Stmt:=pw.main.body.drop 27
abbrev S4 (w:World) (os:OsState):SharedT:={ tree:=T4 w.params,n:=15,life:={ },gens:={ toList:=[] },drawn:={ },toks:=187,os:=os }
abbrev S26 (w:World) (os:OsState):SharedT:={ tree:=T26 w.params,n:=334,life:={ },gens:={ toList:=[] },drawn:={ },toks:=910,os:=os }
abbrev S52 (w:World) (os:OsState):SharedT:={ tree:=T52 w.params,n:=682,life:={ },gens:={ toList:=[] },drawn:={ },toks:=1362,os:=os }
abbrev cE:Code:=Code.body pw.main.body envT
abbrev B1:List Frame:=[topFrame { line:=0,col:=0,endLine:=0,endCol:=0 }]
abbrev RunA (w:World):Prop:=∀ os,segRunT treeTable pw w 11 (some (Value.ref 6)) 1 8500 (S4 w os) (piecesOf st0 envT cE { line:=0,col:=0,endLine:=0,endCol:=0 } B1) =
  some (.next,S26 w os,cE,{ line:=87,col:=0,endLine:=88,endCol:=63 })
abbrev RunP (w:World):Prop:=∀ os,segRunT treeTable pw w 11 (some (Value.ref 6)) 1 7000 (S26 w os) (piecesOf st27 envT cE { line:=87,col:=0,endLine:=88,endCol:=63 } B1) =
  some (.next,S52 w os,cE,{ line:=252,col:=0,endLine:=269,endCol:=95 })
end
end MineH
end
section
namespace MineH
section
theorem runA_false (w:World):RunA (w.withFollow "special-get-raises" false):=by
 intro os
 rw [PySem.W.Fast.te10110043849684766642,PySem.W.Fast.te14364793385576792824]
 kernel_rfl
theorem runA_true (w:World):RunA (w.withFollow "special-get-raises" true):=by
 intro os
 rw [PySem.W.Fast.te10110043849684766642,PySem.W.Fast.te14364793385576792824]
 kernel_rfl
theorem runAA (w:World):RunA w:=byRow2 "special-get-raises" (P:=RunA) runA_false runA_true w
end
end MineH
end
section
namespace MineH
section
theorem runW00 (w:World):RunP ((w.withFollow "comprehension-iter-twice" false).withFollow "special-get-raises" false):=by
 intro os
 rw [PySem.W.Fast.te10110043849684766642,PySem.W.Fast.te14364793385576792824]
 kernel_rfl
theorem runW10 (w:World):RunP ((w.withFollow "comprehension-iter-twice" true).withFollow "special-get-raises" false):=by
 intro os
 rw [PySem.W.Fast.te10110043849684766642,PySem.W.Fast.te14364793385576792824]
 kernel_rfl
theorem runW01 (w:World):RunP ((w.withFollow "comprehension-iter-twice" false).withFollow "special-get-raises" true):=by
 intro os
 rw [PySem.W.Fast.te10110043849684766642,PySem.W.Fast.te14364793385576792824]
 kernel_rfl
theorem runW11 (w:World):RunP ((w.withFollow "comprehension-iter-twice" true).withFollow "special-get-raises" true):=by
 intro os
 rw [PySem.W.Fast.te10110043849684766642,PySem.W.Fast.te14364793385576792824]
 kernel_rfl
theorem runW (b1 b2:Bool) (w:World):RunP ((w.withFollow "comprehension-iter-twice" b1).withFollow "special-get-raises" b2):=by
 cases b1<;>cases b2
 ·exact runW00 w
 ·exact runW01 w
 ·exact runW10 w
 ·exact runW11 w
end
end MineH
end
section
namespace MineH
section
def Kx (P:Params):Frag:=[(0,PySem.W.boot_o_0 P),(1,PySem.W.boot_o_1 P),(2,o2 P),(3,o3 P),(4,PySem.W.boot_o_4 P),(5,PySem.W.boot_o_5 P),(6,PySem.W.boot_o_6 P),(7,PySem.W.boot_o_7 P),(8,PySem.W.boot_o_8 P),(9,PySem.W.boot_o_9 P),(10,PySem.W.boot_o_10 P),(11,o11 P),(12,o12 P),(13,o13 P),(14,o14 P),(15,o15 P),(22,o22 P),(23,o23 P),(24,o24 P),(25,o25 P),(26,o26 P),(27,o27 P),(28,o28 P),(29,o29 P),(30,o30 P),(31,o31 P),(32,o32 P),(35,o35 P),(36,o36 P),(37,o37 P),(38,o38 P),(39,o39 P),(40,o40 P),(41,o41 P),(42,o42 P),(43,o43 P),(44,o44 P),(45,o45 P),(46,o46 P),(47,o47 P),(48,o48 P),(49,o49 P),(50,o50 P),(51,o51 P),(52,o52 P),(53,o53 P),(55,o55 P),(56,o56 P),(57,o57 P),(58,o58 P),(59,o59 P),(60,o60 P),(61,o61 P),(62,o62 P),(63,o63 P),(64,o64 P),(65,o65 P),(66,o66 P),(67,o67 P),(68,o68 P),(69,o69 P),(70,o70 P),(71,o71 P),(73,o73 P),(74,o74 P),(75,o75 P),(76,o76 P),(77,o77 P),(78,o78 P),(79,o79 P),(80,o80 P),(81,o81 P),(82,o82 P),(83,o83 P),(84,o84 P),(85,o85 P),(86,o86 P),(87,o87 P),(88,o88 P),(89,o89 P),(90,o90 P),(91,o91 P),(92,o92 P),(93,o93 P),(94,o94 P),(95,o95 P),(96,o96 P),(97,o97 P),(98,o98 P),(99,o99 P),(100,o100 P),(101,o101 P),(102,o102 P),(103,o103 P),(104,o104 P),(105,o105 P),(106,o106 P),(107,o107 P),(108,o108 P),(109,o109 P),(110,o110 P),(111,o111 P),(112,o112 P),(113,o113 P),(114,o114 P),(115,o115 P),(116,o116 P),(117,o117 P),(126,o126 P),(259,o259 P),(260,o260 P),(261,o261 P),(262,o262 P),(263,o263 P),(264,o264 P),(265,o265 P),(266,o266 P),(267,o267 P),(268,o268 P),(269,o269 P),(270,o270 P),(271,o271 P),(272,o272 P),(273,o273 P),(274,o274 P),(275,o275 P),(276,o276 P),(277,o277 P),(278,o278 P),(279,o279 P),(280,o280 P),(281,o281 P),(282,o282 P),(283,o283 P),(284,o284 P),(285,o285 P),(286,o286 P),(287,o287 P),(288,o288 P),(289,o289 P),(290,o290 P),(291,o291 P),(292,o292 P),(293,o293 P),(294,o294 P),(295,o295 P),(296,o296 P),(297,o297 P),(298,o298 P),(299,o299 P),(300,o300 P),(301,o301 P),(302,o302 P),(303,o303 P),(304,o304 P),(305,o305 P),(306,o306 P),(307,o307 P),(308,o308 P),(309,o309 P),(310,o310 P),(311,o311 P),(312,o312 P),(313,o313 P),(314,o314 P),(315,o315 P),(316,o316 P),(317,o317 P),(318,o318 P),(319,o319 P),(320,o320 P),(321,o321 P),(322,o322 P),(323,o323 P),(324,o324 P),(325,o325 P),(326,o326 P),(327,o327 P),(328,o328 P),(337,o337 P),(533,o533 P),(534,o534 P),(535,o535 P),(536,o536 P),(537,o537 P),(538,o538 P),(539,o539 P),(540,o540 P),(541,o541 P),(542,o542 P),(543,o543 P),(544,o544 P),(545,o545 P),(546,o546 P),(547,o547 P),(548,o548 P),(549,o549 P),(550,o550 P),(551,o551 P),(552,o552 P),(553,o553 P),(554,o554 P),(555,o555 P),(556,o556 P),(557,o557 P),(558,o558 P),(559,o559 P),(560,o560 P),(561,o561 P),(562,o562 P),(563,o563 P),(564,o564 P),(565,o565 P),(566,o566 P),(567,o567 P),(568,o568 P),(569,o569 P),(570,o570 P),(571,o571 P),(572,o572 P),(573,o573 P),(574,o574 P),(575,o575 P),(576,o576 P),(577,o577 P),(578,o578 P),(579,o579 P),(580,o580 P),(581,o581 P),(582,o582 P),(583,o583 P),(584,o584 P),(585,o585 P),(586,o586 P),(587,o587 P),(588,o588 P),(589,o589 P),(590,o590 P),(591,o591 P),(592,o592 P),(593,o593 P),(594,o594 P),(595,o595 P),(596,o596 P),(597,o597 P),(598,o598 P),(599,o599 P),(600,o600 P),(601,o601 P),(602,o602 P),(603,o603 P),(604,o604 P),(605,o605 P),(606,o606 P),(607,o607 P),(608,o608 P),(609,o609 P),(610,o610 P),(611,o611 P),(612,o612 P),(613,o613 P),(614,o614 P),(615,o615 P),(616,o616 P),(617,o617 P),(618,o618 P),(619,o619 P),(620,o620 P),(621,o621 P),(622,o622 P),(623,o623 P),(624,o624 P),(625,o625 P),(626,o626 P),(627,o627 P),(628,o628 P),(629,o629 P),(630,o630 P),(631,o631 P),(632,o632 P),(633,o633 P),(634,o634 P),(635,o635 P),(636,o636 P),(637,o637 P),(638,o638 P),(639,o639 P),(640,o640 P),(641,o641 P),(642,o642 P),(643,o643 P),(644,o644 P),(645,o645 P),(646,o646 P),(647,o647 P),(648,o648 P),(649,o649 P),(650,o650 P),(651,o651 P),(652,o652 P),(653,o653 P),(654,o654 P),(655,o655 P),(656,o656 P),(657,o657 P),(658,o658 P),(659,o659 P),(660,o660 P),(661,o661 P),(662,o662 P),(663,o663 P),(664,o664 P),(665,o665 P),(666,o666 P),(667,o667 P),(668,o668 P),(669,o669 P),(670,o670 P),(671,o671 P),(672,o672 P),(673,o673 P),(674,o674 P),(675,o675 P),(676,o676 P),(677,o677 P),(678,o678 P),(679,o679 P),(680,o680 P),(681,o681 P)]
def kAs:List Addr:=[0,1,2,3,4,5,6,7,8,9,10,11,12,13,14,15,22,23,24,25,26,27,28,29,30,31,32,35,36,37,38,39,40,41,42,43,44,45,46,47,48,49,50,51,52,53,55,56,57,58,59,60,61,62,63,64,65,66,67,68,69,70,71,73,74,75,76,77,78,79,80,81,82,83,84,85,86,87,88,89,90,91,92,93,94,95,96,97,98,99,100,101,102,103,104,105,106,107,108,109,110,111,112,113,114,115,116,117,126,259,260,261,262,263,264,265,266,267,268,269,270,271,272,273,274,275,276,277,278,279,280,281,282,283,284,285,286,287,288,289,290,291,292,293,294,295,296,297,298,299,300,301,302,303,304,305,306,307,308,309,310,311,312,313,314,315,316,317,318,319,320,321,322,323,324,325,326,327,328,337,533,534,535,536,537,538,539,540,541,542,543,544,545,546,547,548,549,550,551,552,553,554,555,556,557,558,559,560,561,562,563,564,565,566,567,568,569,570,571,572,573,574,575,576,577,578,579,580,581,582,583,584,585,586,587,588,589,590,591,592,593,594,595,596,597,598,599,600,601,602,603,604,605,606,607,608,609,610,611,612,613,614,615,616,617,618,619,620,621,622,623,624,625,626,627,628,629,630,631,632,633,634,635,636,637,638,639,640,641,642,643,644,645,646,647,648,649,650,651,652,653,654,655,656,657,658,659,660,661,662,663,664,665,666,667,668,669,670,671,672,673,674,675,676,677,678,679,680,681]
def H1 (P:Params):Heap:=⟨(objsL P).toArray,{}⟩
theorem absH1 (P:Params):absHeap (T52 P) 682 {}=H1 P:=by kernel_rfl
def qv:Program:={ pw with main:={ pw.main with body:=[pw.main.body[51]!] } }
theorem runAll2 (w:World):RunP w:=
 byRow2 "special-get-raises" (P:=RunP)
  (fun w=>byRow2 "comprehension-iter-twice" (P:=fun w=>RunP (w.withFollow "special-get-raises" false)) (fun w=>runW false false w) (fun w=>runW true false w) w)
  (fun w=>byRow2 "comprehension-iter-twice" (P:=fun w=>RunP (w.withFollow "special-get-raises" true)) (fun w=>runW false true w) (fun w=>runW true true w) w) w
theorem pre12 (w:World) (os:OsState):topGo treeTable pw w 11 (some (.ref 6)) 12 ⟨boot_heap w.params,#[],boot_drawn,boot_toks,os⟩ (topStub pw) =
  some ((({ tree:=T4 w.params,n:=15,life:={ },gens:={ toList:=[] },drawn:={ },toks:=187,os:=os }:SharedT)).abs,⟨denote treeTable (Code.body pw.main.body envT),Code.body pw.main.body envT,{ line:=0,col:=0,endLine:=0,endCol:=0 },[topFrame { line:=0,col:=0,endLine:=0,endCol:=0 }]⟩):=by
 rw [PySem.W.Fast.te15667345088766844465,PySem.W.Fast.te14364793385576792824,PySem.W.Fast.te11892475500146522536]
 kernel_rfl
theorem block1 (w:World) (os:OsState) (S:Shared):segRun treeTable pw w 11 (some (.ref 6)) 1 1 S (blockOf pw.main.body envT (Code.body pw.main.body envT) { line:=0,col:=0,endLine:=0,endCol:=0 } [topFrame { line:=0,col:=0,endLine:=0,endCol:=0 }]) =
  some (.next,S,Code.body pw.main.body envT,{ line:=0,col:=0,endLine:=0,endCol:=0 }):=by
 kernel_rfl
theorem fin2 (w:World) (S:Shared):topRun treeTable pw w 11 (some (.ref 6)) 2 S ⟨doneF .next,Code.body pw.main.body envT,{ line:=252,col:=0,endLine:=269,endCol:=95 },[topFrame { line:=0,col:=0,endLine:=0,endCol:=0 }]⟩=some S:=by
 kernel_rfl
end
end MineH
end
section
namespace MineH
section
theorem bodyEq:pw.main.body=st0++(st27++[]):=by kernel_rfl
def MM:Nat:=12+(1+(8500+(7000+2)))
theorem abs52 (w:World) (os:OsState):(S52 w os).abs=⟨H1 w.params,#[],{},1362,os⟩:=by
 show (⟨absHeap (T52 w.params) 682 {},#[],{},1362,os⟩:Shared)=_
 rw [absH1]
theorem runs (w:World) (os:OsState):topRun treeTable pw w 11 (some (.ref 6)) MM ⟨boot_heap w.params,#[],boot_drawn,boot_toks,os⟩ (topStub pw)=some ⟨H1 w.params,#[],{},1362,os⟩:=by
 have f:=fin2 w (S52 w os).abs
 have k27:=piece_app (segRun_of (runAll2 w os)) (piece_nil f)
 have kc:=piece_app (segRun_of (runAA w os)) k27
 rw [← bodyEq] at kc
 have kb:=piece_block (block1 w os _) kc
 have:=go_top (pre12 w os) kb
 rw [abs52] at this
 exact this
theorem openB:∀ w:World,(fencedOpening treeTable pw w 29658).map (fun s=>(s.heap,s.gens,s.drawn,s.toks))=some (boot_heap w.params,Array.mk [],boot_drawn,boot_toks):=
 boot_open (by kernel_rfl) (by kernel_rfl) (fun s=>by kernel_rfl)
theorem sizeB:∀ w:World,((boot_heap w.params).isNs mainGlobals&&(#[]:Array GenState).size==0,(boot_heap w.params).objs.size,(boot_heap w.params).nsMap mainGlobals "__annotations__")=(true,11,some (.ref 6)):=by
 intro w; kernel_rfl
def looseL:List Str:=[Str.ofString "AssemblyFault",Str.ofString "REGISTER_NAMES",Str.ofString "LUI",Str.ofString "AUIPC",Str.ofString "JAL",Str.ofString "WITH_IMM",Str.ofString "WITH_REG",Str.ofString "FENCE",Str.ofString "SYSTEM",Str.ofString "INSTRUCTIONS",Str.ofString "PLACES",Str.ofString "BOUNDS",Str.ofString "numbers_by_name",Str.ofString "REGISTER_NUMBERS",Str.ofString "register_number",Str.ofString "signed",Str.ofString "high_part",Str.ofString "low_part",Str.ofString "fits",Str.ofString "imm_bits",Str.ofString "imm_mask",Str.ofString "imm_of",Str.ofString "with_imm",Str.ofString "encode",Str.ofString "names_by_base",Str.ofString "NAMES_BY_BASE",Str.ofString "name_of",Str.ofString "decode",Str.ofString "_law_pictures",Str.ofString "_law_turns",Str.ofString "_law_groups",Str.ofString "_law_keys",Str.ofString "_law_wrong_names",Str.ofString "_law_no_instructions",Str.ofString "_law_draw",Str.ofString "_law_rows",Str.ofString "_law_bits",Str.ofString "_law_laid",Str.ofString "_law_read",Str.ofString "_law_fields",Str.ofString "_law_with",Str.ofString "_law_is_refused",Str.ofString "_law_is_number_right",Str.ofString "_law_is_form_right",Str.ofString "_law_by_opcode",Str.ofString "_law_is_turned_right",Str.ofString "_law_are_parts_right",Str.ofString "_law_are_registers_right"]
abbrev XtB (s:Shared):Bool:=xlAt qv [] s&&recOk [] s
def obsX (s:Shared):List (Option Obj):=kAs.map s.heap.get?
def valX (w:World):List (Option Obj):=(Kx w.params).map fun p=>some p.2
theorem look1 (w:World) (os:OsState):(staticsOk (importedModules pw.main.body) (boot_heap w.params) (H1 w.params)&&namesBound pw (H1 w.params)&&gensDone ⟨H1 w.params,#[],{},1362,os⟩&&laidKept (boot_heap w.params) (H1 w.params))=true:=by
 kernel_rfl
theorem look3 (w:World) (os:OsState):obsX ⟨H1 w.params,#[],{},1362,os⟩=valX w:=by kernel_rfl
end
end MineH
end
section
namespace MineH
section
theorem look2 (w:World) (os:OsState):openSeen qv looseL (importedModules pw.main.body) XtB true ⟨H1 w.params,#[],{},1362,os⟩=openGood qv looseL:=by
 unfold openSeen openGood
 refine looks_pair ?_ (looks_pair ?_ (looks_pair ?_ (looks_pair ?_ (looks_pair ?_ (looks_pair ?_ (looks_pair ?_ (looks_pair ?_ ?_)))))))<;>kernel_rfl
theorem left:LeftO pw qv looseL XtB obsX valX 29658 true:=
 LeftO.of_pieces (H₀:=boot_heap) (H₁:=H1) (gs₀:=#[]) (gs₁:=#[]) (d₀:=boot_drawn) (d₁:={}) (k₀:=boot_toks) (k₁:=1362) (m₀:=11) (ann:=some (.ref 6)) (M:=MM)
  openB sizeB runs (by kernel_rfl) (fun w=>by
   funext os
   exact looks_pair (look1 w os) (looks_pair (look2 w os) (look3 w os)))
def fdPos (i:Nat):Pos:=match pw.main.body[i]? with | some (.FunctionDef _ _ _ _ _ _ _ _ _ p)=>p | _=>⟨0,0,0,0⟩
def dLaw:DefRec:=⟨Str.ofString "law",fdP 51,fdB 51,fdS 51,fdPos 51⟩
abbrev rwl:OpenLaw:=PySem.Challenge.rw_nm0009_01
theorem hdefL:defOf qv rwl.row.name=some (dLaw,[]):=by kernel_rfl
theorem hpL:rwl.row.prog.theDef rwl.row.name=some (dLaw.params,dLaw.body,dLaw.scope):=by kernel_rfl
theorem hkL:kwWritten? dLaw.params.kwonlyargs dLaw.params.kw_defaults=some []:=by kernel_rfl
abbrev hkX:Hook:=kHook Kx kAs (fun _=>by kernel_rfl)
theorem hd (walk:WalkO qv looseL (XL qv []) (Hook.says hkX) rwl.row.toRowW dLaw [] (fun f vs=>PySem.call f vs)):rwl.Holds:=by
 w_on; o_law
 refine PySem.W.holds_open (r:=rwl.row) (q:=qv) (loose:=looseL) (Xt:=XtB) (XP:=XL qv []) (Yf:=obsX) (Ya:=valX) (YP:=Hook.says hkX) (N:=29658) left (Hook.of hkX) (Hook.keeps hkX) (fun s e=>xl_of s (Bool.and_eq_true_iff.mp e).1) XL.keeps hdefL hpL hkL (fun s e=>recFacts_of (Bool.and_eq_true_iff.mp e).2) rfl (by assumption) (by decide +kernel) ⟨rfl,rfl,rfl,rfl,rfl,by decide +kernel⟩ ?hw walk
 case hw=>w_witness2
end
end MineH
end
section
open PySem.SeqAt MineH
namespace Mine
section
theorem ns_eq {h:Heap} {a:Addr} {m m':Str→Option Value} (x:h.Ns a m) (y:h.Ns a m'):m=m':=by
 obtain ⟨o,es,ep,e,d,_,f⟩:=x
 obtain ⟨o',es',ep',e',d',_,f'⟩:=y
 rw [e] at e'
 injection e' with e'
 subst e'
 rw [d] at d'
 injection d' with d1 d2
 subst d1
 funext n
 rw [← f n,← f' n]
def strKeysB (es:List DictEntry):Bool:=match es with
 | []=>true
 | e :: r=>(match e.key with | .str _ _=>true | _=>false)&&strKeysB r
theorem strKeysB_ok:∀ {es:List DictEntry},strKeysB es=true→∀ e∈es,∃ n t,e.key=.str n t
 | [],_,_,he=>nomatch he
 | e :: r,h,e',he=>by
  simp only [strKeysB,Bool.and_eq_true] at h
  rcases List.mem_cons.mp he with q | q
  ·subst q
   have h1:=h.1
   split at h1
   ·rename_i n t q; exact ⟨n,t,q⟩
   ·cases h1
  ·exact strKeysB_ok h.2 e' q
def dictEs (o:Obj):Array DictEntry:=match o.data with | .dict es _=>es | _=>#[]
def isDictB (o:Obj):Bool:=match o.data with | .dict _ _=>true | _=>false
theorem ns_at {h:Heap} {a:Addr} {o:Obj} (e:h.get? a=some o) (hd:isDictB o=true) (hk:strKeysB (dictEs o).toList=true):h.Ns a (nsFind (dictEs o)):=by
 unfold isDictB at hd
 split at hd
 ·rename_i es ep q
  have:dictEs o=es:=by unfold dictEs; rw [q]
  rw [this] at hk ⊢
  exact ⟨o,es,ep,e,q,fun x hx=>strKeysB_ok hk x (by simpa using hx),fun _=>rfl⟩
 ·cases hd
variable {w:World} {h:Heap}
abbrev gm (w:World):Str→Option Value:=nsFind (dictEs (o3 w.params))
abbrev bmm (w:World):Str→Option Value:=nsFind (dictEs (PySem.W.boot_o_0 w.params))
theorem ns_g (X:(Kx w.params).In h):h.Ns mainGlobals (gm w):=ns_at (X 3 _ (by kernel_rfl)) (by kernel_rfl) (by kernel_rfl)
theorem ns_b (X:(Kx w.params).In h):h.Ns builtinsNs (bmm w):=ns_at (X 0 _ (by kernel_rfl)) (by kernel_rfl) (by kernel_rfl)
theorem gm_of (X:(Kx w.params).In h) {f:Str} {v:Value} (e:gm w f=some v):∀ mg,h.Ns mainGlobals mg→mg f=some v:=fun mg n=>by rw [ns_eq n (ns_g X)]; exact e
end
end Mine
end
section
open PySem.SeqAt MineH
namespace Mine
section
variable {prog:Program} {w:World} {h:Heap}
abbrev HasG (prog:Program) (w:World) (h:Heap) (t:AV) (v:Value):Prop:=Has prog w (VX (fun _=>False) h) [] t v
theorem ci {x:Str} {t:AV} {v:Value} (n:Nat) (X:(Kx w.params).In h) (e:gm w x=some v) (c:chk (Kx w.params) n t v=true):∃ v,gm w x=some v∧HasG prog w h t v:=⟨v,e,chk_has X n t v c⟩
theorem g1 (X:(Kx w.params).In h):∃ v,gm w "REGISTER_NAMES" = some v∧HasG prog w h g_REGISTER_NAMES v:=ci 100 X (v:=.ref 35) (by kernel_rfl) (by kernel_rfl)
theorem g2 (X:(Kx w.params).In h):∃ v,gm w "LUI" = some v∧HasG prog w h g_LUI v:=ci 100 X (v:=.int 55 255) (by kernel_rfl) (by kernel_rfl)
theorem g3 (X:(Kx w.params).In h):∃ v,gm w "AUIPC" = some v∧HasG prog w h g_AUIPC v:=ci 100 X (v:=.int 23 257) (by kernel_rfl) (by kernel_rfl)
theorem g4 (X:(Kx w.params).In h):∃ v,gm w "JAL" = some v∧HasG prog w h g_JAL v:=ci 100 X (v:=.int 111 259) (by kernel_rfl) (by kernel_rfl)
theorem g5 (X:(Kx w.params).In h):∃ v,gm w "WITH_IMM" = some v∧HasG prog w h g_WITH_IMM v:=ci 100 X (v:=.int 19 261) (by kernel_rfl) (by kernel_rfl)
theorem g6 (X:(Kx w.params).In h):∃ v,gm w "WITH_REG" = some v∧HasG prog w h g_WITH_REG v:=ci 100 X (v:=.int 51 263) (by kernel_rfl) (by kernel_rfl)
theorem g7 (X:(Kx w.params).In h):∃ v,gm w "FENCE" = some v∧HasG prog w h g_FENCE v:=ci 100 X (v:=.int 15 265) (by kernel_rfl) (by kernel_rfl)
theorem g8 (X:(Kx w.params).In h):∃ v,gm w "SYSTEM" = some v∧HasG prog w h g_SYSTEM v:=ci 100 X (v:=.int 115 267) (by kernel_rfl) (by kernel_rfl)
def dS?:AV→List Str×List AV | .dS ks l=>(ks,l) | _=>([],[])
def dI?:AV→List Int×List AV | .dI ks l=>(ks,l) | _=>([],[])
def dictEp (o:Obj):Nat:=match o.data with | .dict _ n=>n | _=>0
theorem cS {x:Str} {ks:List Str} {l:List AV} {a:Addr} {o:Obj} (n:Nat) (X:(Kx w.params).In h) (e:gm w x=some (.ref a)) (ho:(Kx w.params).lookup a=some o) (hs:(!(Nat.beq a sysModules))=true) (hd:o={ cls:=.type "dict",data:=.dict (dictEs o) (dictEp o) })
  (hk:keysSB ks (dictEs o).toList=true) (hh:HashesAre (hashStr w) ks (dictEs o).toList) (hn:decide ks.Nodup=true) (hv:chkL (Kx w.params) n l ((dictEs o).toList.map (·.val))=true):∃ v,gm w x=some v∧HasG prog w h (.dS ks l) v:=
 ⟨_,e,has_dS (n:=n) X (by rw [← hd]; exact ho) hs hk hh (of_decide_eq_true hn) hv⟩
theorem cI {x:Str} {ks:List Int} {l:List AV} {a:Addr} {o:Obj} (n:Nat) (X:(Kx w.params).In h) (e:gm w x=some (.ref a)) (ho:(Kx w.params).lookup a=some o) (hs:(!(Nat.beq a sysModules))=true) (hd:o={ cls:=.type "dict",data:=.dict (dictEs o) (dictEp o) })
  (hk:keysIB ks (dictEs o).toList=true) (hh:HashesAre hashInt ks (dictEs o).toList) (hn:decide ks.Nodup=true) (hv:chkL (Kx w.params) n l ((dictEs o).toList.map (·.val))=true):∃ v,gm w x=some v∧HasG prog w h (.dI ks l) v:=
 ⟨_,e,has_dI (n:=n) X (by rw [← hd]; exact ho) hs hk hh (of_decide_eq_true hn) hv⟩
theorem g9 (X:(Kx w.params).In h):∃ v,gm w "INSTRUCTIONS" = some v∧HasG prog w h g_INSTRUCTIONS v:=by
 unfold g_INSTRUCTIONS
 refine cS 200 X (a:=36) (o:=o36 w.params) (by kernel_rfl) (by kernel_rfl) (by kernel_rfl) (by kernel_rfl) (by kernel_rfl) ?_ (by kernel_rfl) (by kernel_rfl)
 repeat (first | exact trivial | refine ⟨rfl,?_⟩)
theorem g10 (X:(Kx w.params).In h):∃ v,gm w "PLACES" = some v∧HasG prog w h g_PLACES v:=by
 unfold g_PLACES
 refine cS 200 X (a:=87) (o:=o87 w.params) (by kernel_rfl) (by kernel_rfl) (by kernel_rfl) (by kernel_rfl) (by kernel_rfl) ?_ (by kernel_rfl) (by kernel_rfl)
 repeat (first | exact trivial | refine ⟨rfl,?_⟩)
theorem g11 (X:(Kx w.params).In h):∃ v,gm w "BOUNDS" = some v∧HasG prog w h g_BOUNDS v:=by
 unfold g_BOUNDS
 refine cS 200 X (a:=110) (o:=o110 w.params) (by kernel_rfl) (by kernel_rfl) (by kernel_rfl) (by kernel_rfl) (by kernel_rfl) ?_ (by kernel_rfl) (by kernel_rfl)
 repeat (first | exact trivial | refine ⟨rfl,?_⟩)
theorem g12 (X:(Kx w.params).In h):∃ v,gm w "REGISTER_NUMBERS" = some v∧HasG prog w h g_REGISTER_NUMBERS v:=by
 unfold g_REGISTER_NUMBERS
 refine cS 200 X (a:=126) (o:=o126 w.params) (by kernel_rfl) (by kernel_rfl) (by kernel_rfl) (by kernel_rfl) (by kernel_rfl) ?_ (by kernel_rfl) (by kernel_rfl)
 repeat (first | exact trivial | refine ⟨rfl,?_⟩)
theorem g13 (X:(Kx w.params).In h):∃ v,gm w "NAMES_BY_BASE" = some v∧HasG prog w h g_NAMES_BY_BASE v:=by
 unfold g_NAMES_BY_BASE
 refine cI 200 X (a:=337) (o:=o337 w.params) (by kernel_rfl) (by kernel_rfl) (by kernel_rfl) (by kernel_rfl) (by kernel_rfl) ?_ (by kernel_rfl) (by kernel_rfl)
 repeat (first | exact trivial | refine ⟨rfl,?_⟩)
theorem g14 (X:(Kx w.params).In h):∃ v,gm w "_law_turns" = some v∧HasG prog w h g_law_turns v:=by
 unfold g_law_turns
 refine cS 200 X (a:=554) (o:=o554 w.params) (by kernel_rfl) (by kernel_rfl) (by kernel_rfl) (by kernel_rfl) (by kernel_rfl) ?_ (by kernel_rfl) (by kernel_rfl)
 repeat (first | exact trivial | refine ⟨rfl,?_⟩)
theorem globs_ok (X:(Kx w.params).In h):∀ x v,globs.lookup x=some v→∃ val,gm w x=some val∧HasG prog w h v val:=fun x v e=>by
 have e:=mem_of_lookup e
 simp only [globs,List.mem_cons,List.not_mem_nil,or_false,Prod.mk.injEq] at e
 rcases e with ⟨rfl,rfl⟩ | ⟨rfl,rfl⟩ | ⟨rfl,rfl⟩ | ⟨rfl,rfl⟩ | ⟨rfl,rfl⟩ | ⟨rfl,rfl⟩ | ⟨rfl,rfl⟩ | ⟨rfl,rfl⟩ | ⟨rfl,rfl⟩ | ⟨rfl,rfl⟩ | ⟨rfl,rfl⟩ | ⟨rfl,rfl⟩ | ⟨rfl,rfl⟩ | ⟨rfl,rfl⟩
 ·exact g1 X
 ·exact g2 X
 ·exact g3 X
 ·exact g4 X
 ·exact g5 X
 ·exact g6 X
 ·exact g7 X
 ·exact g8 X
 ·exact g9 X
 ·exact g10 X
 ·exact g11 X
 ·exact g12 X
 ·exact g13 X
 ·exact g14 X
theorem bk_ok:∀ f k,bkOf f=some k→gm w f=none∧bmm w f=some k.val:=fun f k e=>by
 unfold bkOf at e
 repeat' split at e
 all_goals first | (cases e; done) | skip
 all_goals
  rename_i q
  injection e with e
  subst e
  have q:=eq_of_beq q
  subst q
  exact ⟨by kernel_rfl,by kernel_rfl⟩
theorem gok0 (X:(Kx w.params).In h):GOK prog w c0 h:=⟨⟨gm w,bmm w,ns_g X,ns_b X,globs_ok X,bk_ok,fun _ _ e=>(nomatch e),fun _ _ e=>(nomatch e)⟩⟩
end
end Mine
end
section
open PySem.SeqAt MineH
namespace Mine
section
variable {prog:Program} {w:World} {h:Heap}
def paramsAt (i:Nat):Arguments:=match PySem.Challenge.pw_nm0009_01.main.body[i]? with | some (.FunctionDef _ a _ _ _ _ _ _ _ _)=>a | _=>default
def pmOf (o:Obj):Value:=match o.data with | .func fd=>fd.pyModule | _=>.none
def dcOf (o:Obj):Value:=match o.data with | .func fd=>fd.doc | _=>.none
theorem sm_at (X:(Kx w.params).In h):∃ o,h.get? sysModules=some o:=⟨PySem.W.boot_o_1 w.params,X 1 _ (by kernel_rfl)⟩
theorem d16 (X:(Kx w.params).In h) (lim:h.NoLimit):DefAt h 265 "register_number" (paramsAt 16) (bodyAt 16) (scopeAt 16) ["text"]:=
 ⟨⟨_,pmOf (o265 w.params),.ref 264,dcOf (o265 w.params),X 265 (o265 w.params) (by kernel_rfl),by kernel_rfl,⟨264,_,_,_,rfl,X 264 (o264 w.params) (by kernel_rfl),rfl,rfl⟩⟩,lim,sm_at X,by kernel_rfl,by kernel_rfl,by kernel_rfl,by kernel_rfl,fun pm cd doc vals e=>match vals,e with | [v0],_=>rfl,by kernel_rfl,by decide +kernel⟩
theorem d17 (X:(Kx w.params).In h) (lim:h.NoLimit):DefAt h 272 "signed" (paramsAt 17) (bodyAt 17) (scopeAt 17) ["value","width"]:=
 ⟨⟨_,pmOf (o272 w.params),.ref 271,dcOf (o272 w.params),X 272 (o272 w.params) (by kernel_rfl),by kernel_rfl,⟨271,_,_,_,rfl,X 271 (o271 w.params) (by kernel_rfl),rfl,rfl⟩⟩,lim,sm_at X,by kernel_rfl,by kernel_rfl,by kernel_rfl,by kernel_rfl,fun pm cd doc vals e=>match vals,e with | [v0,v1],_=>rfl,by kernel_rfl,by decide +kernel⟩
theorem d18 (X:(Kx w.params).In h) (lim:h.NoLimit):DefAt h 279 "high_part" (paramsAt 18) (bodyAt 18) (scopeAt 18) ["value"]:=
 ⟨⟨_,pmOf (o279 w.params),.ref 278,dcOf (o279 w.params),X 279 (o279 w.params) (by kernel_rfl),by kernel_rfl,⟨278,_,_,_,rfl,X 278 (o278 w.params) (by kernel_rfl),rfl,rfl⟩⟩,lim,sm_at X,by kernel_rfl,by kernel_rfl,by kernel_rfl,by kernel_rfl,fun pm cd doc vals e=>match vals,e with | [v0],_=>rfl,by kernel_rfl,by decide +kernel⟩
theorem d19 (X:(Kx w.params).In h) (lim:h.NoLimit):DefAt h 286 "low_part" (paramsAt 19) (bodyAt 19) (scopeAt 19) ["value"]:=
 ⟨⟨_,pmOf (o286 w.params),.ref 285,dcOf (o286 w.params),X 286 (o286 w.params) (by kernel_rfl),by kernel_rfl,⟨285,_,_,_,rfl,X 285 (o285 w.params) (by kernel_rfl),rfl,rfl⟩⟩,lim,sm_at X,by kernel_rfl,by kernel_rfl,by kernel_rfl,by kernel_rfl,fun pm cd doc vals e=>match vals,e with | [v0],_=>rfl,by kernel_rfl,by decide +kernel⟩
theorem d20 (X:(Kx w.params).In h) (lim:h.NoLimit):DefAt h 293 "fits" (paramsAt 20) (bodyAt 20) (scopeAt 20) ["name","imm"]:=
 ⟨⟨_,pmOf (o293 w.params),.ref 292,dcOf (o293 w.params),X 293 (o293 w.params) (by kernel_rfl),by kernel_rfl,⟨292,_,_,_,rfl,X 292 (o292 w.params) (by kernel_rfl),rfl,rfl⟩⟩,lim,sm_at X,by kernel_rfl,by kernel_rfl,by kernel_rfl,by kernel_rfl,fun pm cd doc vals e=>match vals,e with | [v0,v1],_=>rfl,by kernel_rfl,by decide +kernel⟩
theorem d21 (X:(Kx w.params).In h) (lim:h.NoLimit):DefAt h 300 "imm_bits" (paramsAt 21) (bodyAt 21) (scopeAt 21) ["form","imm"]:=
 ⟨⟨_,pmOf (o300 w.params),.ref 299,dcOf (o300 w.params),X 300 (o300 w.params) (by kernel_rfl),by kernel_rfl,⟨299,_,_,_,rfl,X 299 (o299 w.params) (by kernel_rfl),rfl,rfl⟩⟩,lim,sm_at X,by kernel_rfl,by kernel_rfl,by kernel_rfl,by kernel_rfl,fun pm cd doc vals e=>match vals,e with | [v0,v1],_=>rfl,by kernel_rfl,by decide +kernel⟩
theorem d22 (X:(Kx w.params).In h) (lim:h.NoLimit):DefAt h 307 "imm_mask" (paramsAt 22) (bodyAt 22) (scopeAt 22) ["form"]:=
 ⟨⟨_,pmOf (o307 w.params),.ref 306,dcOf (o307 w.params),X 307 (o307 w.params) (by kernel_rfl),by kernel_rfl,⟨306,_,_,_,rfl,X 306 (o306 w.params) (by kernel_rfl),rfl,rfl⟩⟩,lim,sm_at X,by kernel_rfl,by kernel_rfl,by kernel_rfl,by kernel_rfl,fun pm cd doc vals e=>match vals,e with | [v0],_=>rfl,by kernel_rfl,by decide +kernel⟩
theorem d23 (X:(Kx w.params).In h) (lim:h.NoLimit):DefAt h 314 "imm_of" (paramsAt 23) (bodyAt 23) (scopeAt 23) ["form","word"]:=
 ⟨⟨_,pmOf (o314 w.params),.ref 313,dcOf (o314 w.params),X 314 (o314 w.params) (by kernel_rfl),by kernel_rfl,⟨313,_,_,_,rfl,X 313 (o313 w.params) (by kernel_rfl),rfl,rfl⟩⟩,lim,sm_at X,by kernel_rfl,by kernel_rfl,by kernel_rfl,by kernel_rfl,fun pm cd doc vals e=>match vals,e with | [v0,v1],_=>rfl,by kernel_rfl,by decide +kernel⟩
theorem d24 (X:(Kx w.params).In h) (lim:h.NoLimit):DefAt h 321 "with_imm" (paramsAt 24) (bodyAt 24) (scopeAt 24) ["word","form","imm"]:=
 ⟨⟨_,pmOf (o321 w.params),.ref 320,dcOf (o321 w.params),X 321 (o321 w.params) (by kernel_rfl),by kernel_rfl,⟨320,_,_,_,rfl,X 320 (o320 w.params) (by kernel_rfl),rfl,rfl⟩⟩,lim,sm_at X,by kernel_rfl,by kernel_rfl,by kernel_rfl,by kernel_rfl,fun pm cd doc vals e=>match vals,e with | [v0,v1,v2],_=>rfl,by kernel_rfl,by decide +kernel⟩
theorem d25 (X:(Kx w.params).In h) (lim:h.NoLimit):DefAt h 328 "encode" (paramsAt 25) (bodyAt 25) (scopeAt 25) ["name","fields"]:=
 ⟨⟨_,pmOf (o328 w.params),.ref 327,dcOf (o328 w.params),X 328 (o328 w.params) (by kernel_rfl),by kernel_rfl,⟨327,_,_,_,rfl,X 327 (o327 w.params) (by kernel_rfl),rfl,rfl⟩⟩,lim,sm_at X,by kernel_rfl,by kernel_rfl,by kernel_rfl,by kernel_rfl,fun pm cd doc vals e=>match vals,e with | [v0,v1],_=>rfl,by kernel_rfl,by decide +kernel⟩
theorem d28 (X:(Kx w.params).In h) (lim:h.NoLimit):DefAt h 539 "name_of" (paramsAt 28) (bodyAt 28) (scopeAt 28) ["word"]:=
 ⟨⟨_,pmOf (o539 w.params),.ref 538,dcOf (o539 w.params),X 539 (o539 w.params) (by kernel_rfl),by kernel_rfl,⟨538,_,_,_,rfl,X 538 (o538 w.params) (by kernel_rfl),rfl,rfl⟩⟩,lim,sm_at X,by kernel_rfl,by kernel_rfl,by kernel_rfl,by kernel_rfl,fun pm cd doc vals e=>match vals,e with | [v0],_=>rfl,by kernel_rfl,by decide +kernel⟩
theorem d29 (X:(Kx w.params).In h) (lim:h.NoLimit):DefAt h 546 "decode" (paramsAt 29) (bodyAt 29) (scopeAt 29) ["word"]:=
 ⟨⟨_,pmOf (o546 w.params),.ref 545,dcOf (o546 w.params),X 546 (o546 w.params) (by kernel_rfl),by kernel_rfl,⟨545,_,_,_,rfl,X 545 (o545 w.params) (by kernel_rfl),rfl,rfl⟩⟩,lim,sm_at X,by kernel_rfl,by kernel_rfl,by kernel_rfl,by kernel_rfl,fun pm cd doc vals e=>match vals,e with | [v0],_=>rfl,by kernel_rfl,by decide +kernel⟩
theorem d31 (X:(Kx w.params).In h) (lim:h.NoLimit):DefAt h 553 "_law_pictures" (paramsAt 31) (bodyAt 31) (scopeAt 31) []:=
 ⟨⟨_,pmOf (o553 w.params),.ref 552,dcOf (o553 w.params),X 553 (o553 w.params) (by kernel_rfl),by kernel_rfl,⟨552,_,_,_,rfl,X 552 (o552 w.params) (by kernel_rfl),rfl,rfl⟩⟩,lim,sm_at X,by kernel_rfl,by kernel_rfl,by kernel_rfl,by kernel_rfl,fun pm cd doc vals e=>match vals,e with | [],_=>rfl,by kernel_rfl,by decide +kernel⟩
theorem d33 (X:(Kx w.params).In h) (lim:h.NoLimit):DefAt h 563 "_law_groups" (paramsAt 33) (bodyAt 33) (scopeAt 33) []:=
 ⟨⟨_,pmOf (o563 w.params),.ref 562,dcOf (o563 w.params),X 563 (o563 w.params) (by kernel_rfl),by kernel_rfl,⟨562,_,_,_,rfl,X 562 (o562 w.params) (by kernel_rfl),rfl,rfl⟩⟩,lim,sm_at X,by kernel_rfl,by kernel_rfl,by kernel_rfl,by kernel_rfl,fun pm cd doc vals e=>match vals,e with | [],_=>rfl,by kernel_rfl,by decide +kernel⟩
theorem d34 (X:(Kx w.params).In h) (lim:h.NoLimit):DefAt h 570 "_law_keys" (paramsAt 34) (bodyAt 34) (scopeAt 34) []:=
 ⟨⟨_,pmOf (o570 w.params),.ref 569,dcOf (o570 w.params),X 570 (o570 w.params) (by kernel_rfl),by kernel_rfl,⟨569,_,_,_,rfl,X 569 (o569 w.params) (by kernel_rfl),rfl,rfl⟩⟩,lim,sm_at X,by kernel_rfl,by kernel_rfl,by kernel_rfl,by kernel_rfl,fun pm cd doc vals e=>match vals,e with | [],_=>rfl,by kernel_rfl,by decide +kernel⟩
theorem d35 (X:(Kx w.params).In h) (lim:h.NoLimit):DefAt h 577 "_law_wrong_names" (paramsAt 35) (bodyAt 35) (scopeAt 35) []:=
 ⟨⟨_,pmOf (o577 w.params),.ref 576,dcOf (o577 w.params),X 577 (o577 w.params) (by kernel_rfl),by kernel_rfl,⟨576,_,_,_,rfl,X 576 (o576 w.params) (by kernel_rfl),rfl,rfl⟩⟩,lim,sm_at X,by kernel_rfl,by kernel_rfl,by kernel_rfl,by kernel_rfl,fun pm cd doc vals e=>match vals,e with | [],_=>rfl,by kernel_rfl,by decide +kernel⟩
theorem d36 (X:(Kx w.params).In h) (lim:h.NoLimit):DefAt h 584 "_law_no_instructions" (paramsAt 36) (bodyAt 36) (scopeAt 36) []:=
 ⟨⟨_,pmOf (o584 w.params),.ref 583,dcOf (o584 w.params),X 584 (o584 w.params) (by kernel_rfl),by kernel_rfl,⟨583,_,_,_,rfl,X 583 (o583 w.params) (by kernel_rfl),rfl,rfl⟩⟩,lim,sm_at X,by kernel_rfl,by kernel_rfl,by kernel_rfl,by kernel_rfl,fun pm cd doc vals e=>match vals,e with | [],_=>rfl,by kernel_rfl,by decide +kernel⟩
theorem d37 (X:(Kx w.params).In h) (lim:h.NoLimit):DefAt h 591 "_law_draw" (paramsAt 37) (bodyAt 37) (scopeAt 37) ["well","sizes"]:=
 ⟨⟨_,pmOf (o591 w.params),.ref 590,dcOf (o591 w.params),X 591 (o591 w.params) (by kernel_rfl),by kernel_rfl,⟨590,_,_,_,rfl,X 590 (o590 w.params) (by kernel_rfl),rfl,rfl⟩⟩,lim,sm_at X,by kernel_rfl,by kernel_rfl,by kernel_rfl,by kernel_rfl,fun pm cd doc vals e=>match vals,e with | [v0,v1],_=>rfl,by kernel_rfl,by decide +kernel⟩
theorem d38 (X:(Kx w.params).In h) (lim:h.NoLimit):DefAt h 598 "_law_rows" (paramsAt 38) (bodyAt 38) (scopeAt 38) []:=
 ⟨⟨_,pmOf (o598 w.params),.ref 597,dcOf (o598 w.params),X 598 (o598 w.params) (by kernel_rfl),by kernel_rfl,⟨597,_,_,_,rfl,X 597 (o597 w.params) (by kernel_rfl),rfl,rfl⟩⟩,lim,sm_at X,by kernel_rfl,by kernel_rfl,by kernel_rfl,by kernel_rfl,fun pm cd doc vals e=>match vals,e with | [],_=>rfl,by kernel_rfl,by decide +kernel⟩
theorem d39 (X:(Kx w.params).In h) (lim:h.NoLimit):DefAt h 605 "_law_bits" (paramsAt 39) (bodyAt 39) (scopeAt 39) ["form"]:=
 ⟨⟨_,pmOf (o605 w.params),.ref 604,dcOf (o605 w.params),X 605 (o605 w.params) (by kernel_rfl),by kernel_rfl,⟨604,_,_,_,rfl,X 604 (o604 w.params) (by kernel_rfl),rfl,rfl⟩⟩,lim,sm_at X,by kernel_rfl,by kernel_rfl,by kernel_rfl,by kernel_rfl,fun pm cd doc vals e=>match vals,e with | [v0],_=>rfl,by kernel_rfl,by decide +kernel⟩
theorem d40 (X:(Kx w.params).In h) (lim:h.NoLimit):DefAt h 612 "_law_laid" (paramsAt 40) (bodyAt 40) (scopeAt 40) ["drawing","known"]:=
 ⟨⟨_,pmOf (o612 w.params),.ref 611,dcOf (o612 w.params),X 612 (o612 w.params) (by kernel_rfl),by kernel_rfl,⟨611,_,_,_,rfl,X 611 (o611 w.params) (by kernel_rfl),rfl,rfl⟩⟩,lim,sm_at X,by kernel_rfl,by kernel_rfl,by kernel_rfl,by kernel_rfl,fun pm cd doc vals e=>match vals,e with | [v0,v1],_=>rfl,by kernel_rfl,by decide +kernel⟩
theorem d41 (X:(Kx w.params).In h) (lim:h.NoLimit):DefAt h 619 "_law_read" (paramsAt 41) (bodyAt 41) (scopeAt 41) ["form","drawing","number"]:=
 ⟨⟨_,pmOf (o619 w.params),.ref 618,dcOf (o619 w.params),X 619 (o619 w.params) (by kernel_rfl),by kernel_rfl,⟨618,_,_,_,rfl,X 618 (o618 w.params) (by kernel_rfl),rfl,rfl⟩⟩,lim,sm_at X,by kernel_rfl,by kernel_rfl,by kernel_rfl,by kernel_rfl,fun pm cd doc vals e=>match vals,e with | [v0,v1,v2],_=>rfl,by kernel_rfl,by decide +kernel⟩
theorem d42 (X:(Kx w.params).In h) (lim:h.NoLimit):DefAt h 626 "_law_fields" (paramsAt 42) (bodyAt 42) (scopeAt 42) ["form","known"]:=
 ⟨⟨_,pmOf (o626 w.params),.ref 625,dcOf (o626 w.params),X 626 (o626 w.params) (by kernel_rfl),by kernel_rfl,⟨625,_,_,_,rfl,X 625 (o625 w.params) (by kernel_rfl),rfl,rfl⟩⟩,lim,sm_at X,by kernel_rfl,by kernel_rfl,by kernel_rfl,by kernel_rfl,fun pm cd doc vals e=>match vals,e with | [v0,v1],_=>rfl,by kernel_rfl,by decide +kernel⟩
theorem d43 (X:(Kx w.params).In h) (lim:h.NoLimit):DefAt h 633 "_law_with" (paramsAt 43) (bodyAt 43) (scopeAt 43) ["fields","key","value"]:=
 ⟨⟨_,pmOf (o633 w.params),.ref 632,dcOf (o633 w.params),X 633 (o633 w.params) (by kernel_rfl),by kernel_rfl,⟨632,_,_,_,rfl,X 632 (o632 w.params) (by kernel_rfl),rfl,rfl⟩⟩,lim,sm_at X,by kernel_rfl,by kernel_rfl,by kernel_rfl,by kernel_rfl,fun pm cd doc vals e=>match vals,e with | [v0,v1,v2],_=>rfl,by kernel_rfl,by decide +kernel⟩
theorem d44 (X:(Kx w.params).In h) (lim:h.NoLimit):DefAt h 640 "_law_is_refused" (paramsAt 44) (bodyAt 44) (scopeAt 44) ["name","fields"]:=
 ⟨⟨_,pmOf (o640 w.params),.ref 639,dcOf (o640 w.params),X 640 (o640 w.params) (by kernel_rfl),by kernel_rfl,⟨639,_,_,_,rfl,X 639 (o639 w.params) (by kernel_rfl),rfl,rfl⟩⟩,lim,sm_at X,by kernel_rfl,by kernel_rfl,by kernel_rfl,by kernel_rfl,fun pm cd doc vals e=>match vals,e with | [v0,v1],_=>rfl,by kernel_rfl,by decide +kernel⟩
theorem d45 (X:(Kx w.params).In h) (lim:h.NoLimit):DefAt h 645 "_law_is_number_right" (paramsAt 45) (bodyAt 45) (scopeAt 45) ["well","name","form","drawing","fields"]:=
 ⟨⟨_,pmOf (o645 w.params),.ref 644,dcOf (o645 w.params),X 645 (o645 w.params) (by kernel_rfl),by kernel_rfl,⟨644,_,_,_,rfl,X 644 (o644 w.params) (by kernel_rfl),rfl,rfl⟩⟩,lim,sm_at X,by kernel_rfl,by kernel_rfl,by kernel_rfl,by kernel_rfl,fun pm cd doc vals e=>match vals,e with | [v0,v1,v2,v3,v4],_=>rfl,by kernel_rfl,by decide +kernel⟩
theorem d46 (X:(Kx w.params).In h) (lim:h.NoLimit):DefAt h 652 "_law_is_form_right" (paramsAt 46) (bodyAt 46) (scopeAt 46) ["well","form","drawing","rows"]:=
 ⟨⟨_,pmOf (o652 w.params),.ref 651,dcOf (o652 w.params),X 652 (o652 w.params) (by kernel_rfl),by kernel_rfl,⟨651,_,_,_,rfl,X 651 (o651 w.params) (by kernel_rfl),rfl,rfl⟩⟩,lim,sm_at X,by kernel_rfl,by kernel_rfl,by kernel_rfl,by kernel_rfl,fun pm cd doc vals e=>match vals,e with | [v0,v1,v2,v3],_=>rfl,by kernel_rfl,by decide +kernel⟩
theorem d47 (X:(Kx w.params).In h) (lim:h.NoLimit):DefAt h 657 "_law_by_opcode" (paramsAt 47) (bodyAt 47) (scopeAt 47) ["rows"]:=
 ⟨⟨_,pmOf (o657 w.params),.ref 656,dcOf (o657 w.params),X 657 (o657 w.params) (by kernel_rfl),by kernel_rfl,⟨656,_,_,_,rfl,X 656 (o656 w.params) (by kernel_rfl),rfl,rfl⟩⟩,lim,sm_at X,by kernel_rfl,by kernel_rfl,by kernel_rfl,by kernel_rfl,fun pm cd doc vals e=>match vals,e with | [v0],_=>rfl,by kernel_rfl,by decide +kernel⟩
theorem d48 (X:(Kx w.params).In h) (lim:h.NoLimit):DefAt h 664 "_law_is_turned_right" (paramsAt 48) (bodyAt 48) (scopeAt 48) ["known_rows","pictures","number","first"]:=
 ⟨⟨_,pmOf (o664 w.params),.ref 663,dcOf (o664 w.params),X 664 (o664 w.params) (by kernel_rfl),by kernel_rfl,⟨663,_,_,_,rfl,X 663 (o663 w.params) (by kernel_rfl),rfl,rfl⟩⟩,lim,sm_at X,by kernel_rfl,by kernel_rfl,by kernel_rfl,by kernel_rfl,fun pm cd doc vals e=>match vals,e with | [v0,v1,v2,v3],_=>rfl,by kernel_rfl,by decide +kernel⟩
theorem d49 (X:(Kx w.params).In h) (lim:h.NoLimit):DefAt h 671 "_law_are_parts_right" (paramsAt 49) (bodyAt 49) (scopeAt 49) ["value","width"]:=
 ⟨⟨_,pmOf (o671 w.params),.ref 670,dcOf (o671 w.params),X 671 (o671 w.params) (by kernel_rfl),by kernel_rfl,⟨670,_,_,_,rfl,X 670 (o670 w.params) (by kernel_rfl),rfl,rfl⟩⟩,lim,sm_at X,by kernel_rfl,by kernel_rfl,by kernel_rfl,by kernel_rfl,fun pm cd doc vals e=>match vals,e with | [v0,v1],_=>rfl,by kernel_rfl,by decide +kernel⟩
theorem d50 (X:(Kx w.params).In h) (lim:h.NoLimit):DefAt h 676 "_law_are_registers_right" (paramsAt 50) (bodyAt 50) (scopeAt 50) ["wrong"]:=
 ⟨⟨_,pmOf (o676 w.params),.ref 675,dcOf (o676 w.params),X 676 (o676 w.params) (by kernel_rfl),by kernel_rfl,⟨675,_,_,_,rfl,X 675 (o675 w.params) (by kernel_rfl),rfl,rfl⟩⟩,lim,sm_at X,by kernel_rfl,by kernel_rfl,by kernel_rfl,by kernel_rfl,fun pm cd doc vals e=>match vals,e with | [v0],_=>rfl,by kernel_rfl,by decide +kernel⟩
end
end Mine
end
section
open PySem.SeqAt MineH
namespace Mine
section
variable {prog:Program} {w:World} {h:Heap}
theorem noX_noexc {α:Type}:∀ {x:R α},NoExc (noX x)
 | .ret _=>trivial
 | .ite _ _ _=>⟨noX_noexc,noX_noexc⟩
 | .need _ x=>noX_noexc (x:=x)
 | .exc=>trivial
 | .fail=>trivial
theorem run_noexc {C:Ctx} {d i:Nat} {xs:List Str} (l:List AV):NoExc (run C d i xs l):=noX_noexc
theorem clo_noexc {v:AV} (l:List AV):NoExc (clo v l):=by unfold clo; split<;>trivial
theorem bitsT_noexc (l:List AV):NoExc (bitsT l):=by unfold bitsT; repeat' split
                             all_goals trivial
theorem byopT_noexc (l:List AV):NoExc (byopT l):=by unfold byopT; split<;>trivial
theorem sub_refl (av:AV):Sub prog w av av:=fun _ _ h=>h
theorem holds_sub {x:R AV} {P:AV→Prop} {X:Prop} (h:x.Holds P X):x.Holds (fun av=>∃ av',P av'∧Sub prog w av av') X:=R.holds_mono (fun av hp=>⟨av,hp,sub_refl av⟩) id h
theorem run_ok {C:Ctx} {G:Heap} {a i d:Nat} {name:Str} {params:Arguments} {xs:List Str} (D:DefAt G a name params (bodyAt i) (scopeAt i) xs) (hG:GOK prog w C G) (hC:C.raise=false):PureFn prog w G a ⟨d,run C d i xs⟩:=
 (runF_ok D hG hC 60).weaken fun _ _ h=>holds_sub (noX_holds h)
theorem run_ok' {C:Ctx} {G:Heap} {a i d:Nat} {name:Str} {params:Arguments} {xs:List Str} (D:DefAt G a name params (bodyAt i) (scopeAt i) xs) (hG:GOK prog w C G) (hC:C.raise=false) {sp:List AV→R AV} (hs:∀ args P,(sp args).Holds P False→(run C d i xs args).Holds (fun av=>∃ av',P av'∧Sub prog w av av') False):PureFn prog w G a ⟨d,sp⟩:=
 (run_ok D hG hC).weaken hs
def AllRun (C:Ctx) (d i:Nat) (xs:List Str):List Str→List AV→Prop
 | k :: ks,v :: vs=>run C d i xs [.str k]=.ret v∧AllRun C d i xs ks vs
 | _,_=>True
theorem all_run {C:Ctx} {d i:Nat} {xs:List Str}:∀ {ks:List Str} {vs:List AV} {f:Str} {v:AV},AllRun C d i xs ks vs→lookS ks vs f=some v→run C d i xs [.str f]=.ret v
 | [],_,_,_,_,e=>nomatch e
 | _ :: _,[],_,_,_,e=>nomatch e
 | k :: ks,x :: vs,f,v,⟨h1,h2⟩,e=>by
  unfold lookS at e
  split at e
  ·rename_i q
   have q:=eq_of_beq q
   subst q
   injection e with e
   subst e
   exact h1
  ·exact all_run h2 e
theorem clo_holds {C:Ctx} {d i:Nat} {v:AV} (e:run C d i [] []=.ret v) (args:List AV) (P:AV→Prop) (h:(clo v args).Holds P False):(run C d i [] args).Holds (fun av=>∃ av',P av'∧Sub prog w av av') False:=by
 unfold clo at h
 split at h
 ·rw [e]; exact ⟨v,h,sub_refl v⟩
 ·exact h.elim
theorem gok1 (X:(Kx w.params).In h) (lim:h.NoLimit):GOK prog w c1 h:=gok_add (gok0 X) (gm_of X (by kernel_rfl)) ⟨o553 w.params,_,X 553 _ (by kernel_rfl),rfl⟩ (run_ok' (d31 X lim) (gok0 X) rfl (clo_holds (eqR_eq (by kernel_rfl)))) clo_noexc
theorem gok2 (X:(Kx w.params).In h) (lim:h.NoLimit):GOK prog w c2 h:=gok_add (gok1 X lim) (gm_of X (by kernel_rfl)) ⟨o570 w.params,_,X 570 _ (by kernel_rfl),rfl⟩ (run_ok' (d34 X lim) (gok1 X lim) rfl (clo_holds (eqR_eq (by kernel_rfl)))) clo_noexc
theorem gok3 (X:(Kx w.params).In h) (lim:h.NoLimit):GOK prog w c3 h:=gok_add (gok2 X lim) (gm_of X (by kernel_rfl)) ⟨o563 w.params,_,X 563 _ (by kernel_rfl),rfl⟩ (run_ok' (d33 X lim) (gok2 X lim) rfl (clo_holds (eqR_eq (by kernel_rfl)))) clo_noexc
theorem gok4 (X:(Kx w.params).In h) (lim:h.NoLimit):GOK prog w c4 h:=gok_add (gok3 X lim) (gm_of X (by kernel_rfl)) ⟨o577 w.params,_,X 577 _ (by kernel_rfl),rfl⟩ (run_ok' (d35 X lim) (gok3 X lim) rfl (clo_holds (eqR_eq (by kernel_rfl)))) clo_noexc
theorem gok5 (X:(Kx w.params).In h) (lim:h.NoLimit):GOK prog w c5 h:=gok_add (gok4 X lim) (gm_of X (by kernel_rfl)) ⟨o584 w.params,_,X 584 _ (by kernel_rfl),rfl⟩ (run_ok' (d36 X lim) (gok4 X lim) rfl (clo_holds (eqR_eq (by kernel_rfl)))) clo_noexc
theorem gok6 (X:(Kx w.params).In h) (lim:h.NoLimit):GOK prog w c6 h:=gok_add (gok5 X lim) (gm_of X (by kernel_rfl)) ⟨o265 w.params,_,X 265 _ (by kernel_rfl),rfl⟩ (run_ok (d16 X lim) (gok5 X lim) rfl) run_noexc
theorem gok7 (X:(Kx w.params).In h) (lim:h.NoLimit):GOK prog w c7 h:=gok_add (gok6 X lim) (gm_of X (by kernel_rfl)) ⟨o272 w.params,_,X 272 _ (by kernel_rfl),rfl⟩ (run_ok (d17 X lim) (gok6 X lim) rfl) run_noexc
theorem gok8 (X:(Kx w.params).In h) (lim:h.NoLimit):GOK prog w c8 h:=gok_add (gok7 X lim) (gm_of X (by kernel_rfl)) ⟨o279 w.params,_,X 279 _ (by kernel_rfl),rfl⟩ (run_ok (d18 X lim) (gok7 X lim) rfl) run_noexc
theorem gok9 (X:(Kx w.params).In h) (lim:h.NoLimit):GOK prog w c9 h:=gok_add (gok8 X lim) (gm_of X (by kernel_rfl)) ⟨o286 w.params,_,X 286 _ (by kernel_rfl),rfl⟩ (run_ok (d19 X lim) (gok8 X lim) rfl) run_noexc
theorem gok10 (X:(Kx w.params).In h) (lim:h.NoLimit):GOK prog w c10 h:=gok_add (gok9 X lim) (gm_of X (by kernel_rfl)) ⟨o293 w.params,_,X 293 _ (by kernel_rfl),rfl⟩ (run_ok (d20 X lim) (gok9 X lim) rfl) run_noexc
theorem gok11 (X:(Kx w.params).In h) (lim:h.NoLimit):GOK prog w c11 h:=gok_add (gok10 X lim) (gm_of X (by kernel_rfl)) ⟨o300 w.params,_,X 300 _ (by kernel_rfl),rfl⟩ (run_ok (d21 X lim) (gok10 X lim) rfl) run_noexc
theorem gok12 (X:(Kx w.params).In h) (lim:h.NoLimit):GOK prog w c12 h:=gok_add (gok11 X lim) (gm_of X (by kernel_rfl)) ⟨o307 w.params,_,X 307 _ (by kernel_rfl),rfl⟩ (run_ok (d22 X lim) (gok11 X lim) rfl) run_noexc
theorem gok13 (X:(Kx w.params).In h) (lim:h.NoLimit):GOK prog w c13 h:=gok_add (gok12 X lim) (gm_of X (by kernel_rfl)) ⟨o314 w.params,_,X 314 _ (by kernel_rfl),rfl⟩ (run_ok (d23 X lim) (gok12 X lim) rfl) run_noexc
theorem gok14 (X:(Kx w.params).In h) (lim:h.NoLimit):GOK prog w c14 h:=gok_add (gok13 X lim) (gm_of X (by kernel_rfl)) ⟨o321 w.params,_,X 321 _ (by kernel_rfl),rfl⟩ (run_ok (d24 X lim) (gok13 X lim) rfl) run_noexc
theorem gok15 (X:(Kx w.params).In h) (lim:h.NoLimit):GOK prog w c15 h:=gok_add (gok14 X lim) (gm_of X (by kernel_rfl)) ⟨o626 w.params,_,X 626 _ (by kernel_rfl),rfl⟩ (run_ok (d42 X lim) (gok14 X lim) rfl) run_noexc
theorem gok16 (X:(Kx w.params).In h) (lim:h.NoLimit):GOK prog w c16 h:=gok_add (gok15 X lim) (gm_of X (by kernel_rfl)) ⟨o612 w.params,_,X 612 _ (by kernel_rfl),rfl⟩ (run_ok (d40 X lim) (gok15 X lim) rfl) run_noexc
theorem gok17 (X:(Kx w.params).In h) (lim:h.NoLimit):GOK prog w c17 h:=gok_add (gok16 X lim) (gm_of X (by kernel_rfl)) ⟨o633 w.params,_,X 633 _ (by kernel_rfl),rfl⟩ (run_ok (d43 X lim) (gok16 X lim) rfl) run_noexc
theorem gok18 (X:(Kx w.params).In h) (lim:h.NoLimit):GOK prog w c18 h:=gok_add (gok17 X lim) (gm_of X (by kernel_rfl)) ⟨o598 w.params,_,X 598 _ (by kernel_rfl),rfl⟩ (run_ok' (d38 X lim) (gok17 X lim) rfl (clo_holds (eqR_eq (by kernel_rfl)))) clo_noexc
theorem bitsT_holds (args:List AV) (P:AV→Prop) (h:(bitsT args).Holds P False):(run c18 1 39 ["form"] args).Holds (fun av=>∃ av',P av'∧Sub prog w av av') False:=by
 have one:∀ (f:Str) (v:AV),run c18 1 39 ["form"] [.str f]=.ret v→P v→(run c18 1 39 ["form"] [.str f]).Holds (fun av=>∃ av',P av'∧Sub prog w av av') False:=fun f v e hp=>by rw [e]; exact ⟨v,hp,sub_refl v⟩
 have k0:run c18 1 39 ["form"] [.str "R"]=.ret v_BR:=eqR_eq (by kernel_rfl)
 have k1:run c18 1 39 ["form"] [.str "I"]=.ret v_BI:=eqR_eq (by kernel_rfl)
 have k2:run c18 1 39 ["form"] [.str "H"]=.ret v_BH:=eqR_eq (by kernel_rfl)
 have k3:run c18 1 39 ["form"] [.str "S"]=.ret v_BS:=eqR_eq (by kernel_rfl)
 have k4:run c18 1 39 ["form"] [.str "B"]=.ret v_BB:=eqR_eq (by kernel_rfl)
 have k5:run c18 1 39 ["form"] [.str "U"]=.ret v_BU:=eqR_eq (by kernel_rfl)
 have k6:run c18 1 39 ["form"] [.str "J"]=.ret v_BJ:=eqR_eq (by kernel_rfl)
 have k7:run c18 1 39 ["form"] [.str "F"]=.ret v_BF:=eqR_eq (by kernel_rfl)
 have k8:run c18 1 39 ["form"] [.str "E"]=.ret v_BE:=eqR_eq (by kernel_rfl)
 have all:AllRun c18 1 39 ["form"] formsL drawL:=And.intro k0 (And.intro k1 (And.intro k2 (And.intro k3 (And.intro k4 (And.intro k5 (And.intro k6 (And.intro k7 (And.intro k8 (trivial)))))))))
 unfold bitsT at h
 split at h
 ·rename_i f
  split at h
  ·rename_i v e
   exact one f v (all_run all e) h
  ·exact h.elim
 ·exact h.elim
theorem gok19 (X:(Kx w.params).In h) (lim:h.NoLimit):GOK prog w c19 h:=gok_add (gok18 X lim) (gm_of X (by kernel_rfl)) ⟨o605 w.params,_,X 605 _ (by kernel_rfl),rfl⟩ (run_ok' (d39 X lim) (gok18 X lim) rfl bitsT_holds) bitsT_noexc
structure HX {α:Type} (x:R α) (P:α→Prop) (X:Prop):Prop where
 out:x.Holds P X
theorem need_ret_inv {p:Prop} {v:AV} {P:AV→Prop} {X:Prop} (h:(R.need p (R.ret v)).Holds P X):p∧P v:=h
theorem byop_run (x:AV) (P:AV→Prop) (e:x=v_ROWS) (hp:P v_BYOP) (k:run c19 1 47 ["rows"] [v_ROWS]=.ret v_BYOP):HX (run c19 1 47 ["rows"] [x]) (fun av=>∃ av',P av'∧Sub prog w av av') False:=by
 rw [e,k]
 exact ⟨⟨v_BYOP,hp,sub_refl _⟩⟩
theorem byop_hx (args:List AV) (P:AV→Prop) (h:HX (byopT args) P False) (k:run c19 1 47 ["rows"] [v_ROWS]=.ret v_BYOP):HX (run c19 1 47 ["rows"] args) (fun av=>∃ av',P av'∧Sub prog w av av') False:=by
 unfold byopT at h
 split at h
 ·rename_i y
  have hq:=need_ret_inv h.out
  exact byop_run y P hq.1 hq.2 k
 ·exact h.out.elim
theorem byopT_holds (args:List AV) (P:AV→Prop) (h:(byopT args).Holds P False):(run c19 1 47 ["rows"] args).Holds (fun av=>∃ av',P av'∧Sub prog w av av') False:=(byop_hx args P ⟨h⟩ (eqR_eq (by kernel_rfl))).out
theorem gok20 (X:(Kx w.params).In h) (lim:h.NoLimit):GOK prog w c20 h:=gok_add (gok19 X lim) (gm_of X (by kernel_rfl)) ⟨o657 w.params,_,X 657 _ (by kernel_rfl),rfl⟩ (run_ok' (d47 X lim) (gok19 X lim) rfl byopT_holds) byopT_noexc
end
end Mine
end
section
open PySem.SeqAt MineH
namespace Mine
section
variable {prog:Program} {w:World} {h:Heap}
def drawR:Int→List Int→List AV
 | _,[]=>[]
 | v,n :: r=>.sym (v.fmod n) :: drawR (v.fdiv n) r
def drawN (a s:Int):Int:=(s*48271+11*a+7).fmod 2147483647
def drawV (l:List Int) (a s:Int):Int:=cond (decide (a<l.length)) (l.getD a.toNat 0) (drawN a s)
def drawS (l:List Int) (a s:Int):Int:=cond (decide (a<l.length)) s (drawN a s)
def intsOf:List AV→Option (List Int)
 | []=>some []
 | x :: r=>match intOf x,intsOf r with
  | some (i,_),some m=>some (i :: m)
  | _,_=>none
def drawW:List AV→List AV→R (List AV×AV):=fun items args=>match items,args with
 | [.ints l,a,s],[.lst sz]=>(match intOf a,intOf s,intsOf sz with
  | some (i,_),some (j,_),some ns=>.need ((0≤i∧i<1000∧l.length<1000∧0≤j∧j<2147483648)∧(ns.length=1∨ns.length=4∨ns.length=5)∧∀ n∈ns,0<n∧n<4294967296)
   (.ret ([.ints l,.sym (i+1),.sym (drawS l i j)],.lst (drawR (drawV l i j) ns)))
  | _,_,_=>.fail)
 | _,_=>.fail
theorem drawW_noexc (x l:List AV):NoExc (drawW x l):=by
 unfold drawW
 split
 ·split<;>trivial
 ·trivial
theorem WellFn.coerce {G:Heap} {a:Addr} {n:Nat} {sp sp':List AV→List AV→R (List AV×AV)} (h:WellFn prog w G a ⟨n,sp⟩) (hw:∀ (items args:List AV) (P:List AV×AV→Prop),(sp' items args).Holds P False→∃ items' args',(∀ V vs,HasL prog w V [] items vs→HasL prog w V [] items' vs)∧(∀ V vs,HasL prog w V [] args vs→HasL prog w V [] args' vs)∧(sp items' args').Holds P False):WellFn prog w G a ⟨n,sp'⟩:=
 fun X fr s A wa ws m items vs avs P Q E h1 h2 h3 h4 h5 h6 h7 h8 h9 h10 h11 h12 h13=>by
  obtain ⟨items',args',c1,c2,c3⟩:=hw items avs P h12
  exact h X fr s A wa ws m items' vs args' P Q E h1 h2 h3 h4 h5 h6 h7 h8 h9 (c1 _ _ h10) (c2 _ _ h11) c3 h13
theorem sym_of {V:Vis} {x:AV} {i:Int} {b:Bool} {v:Value} (e:intOf x=some (i,b)) (h:Has prog w V [] x v):Has prog w V [] (.sym i) v:=by
 cases x<;>simp only [intOf,reduceCtorEq,Option.some.injEq,Prod.mk.injEq] at e
 ·rw [← e.1]; exact h
 ·rw [← e.1]; exact h
theorem syms_of {V:Vis}:∀ {l:List AV} {ns:List Int} {vs:List Value},intsOf l=some ns→HasL prog w V [] l vs→HasL prog w V [] (ns.map .sym) vs
 | [],ns,vs,e,h=>by
  injection e with e
  subst e; exact h
 | x :: l,ns,vs,e,⟨v,r,e1,h1,h2⟩=>by
  simp only [intsOf] at e
  split at e
  ·rename_i i b m q1 q2
   injection e with e
   subst e
   exact ⟨v,r,e1,sym_of q1 h1,syms_of q2 h2⟩
  ·cases e
abbrev drawE (l:List Int) (a s:Int) (ns:List AV):R (List AV×AV):=specW c20 0 60 (scopeAt 37) (bodyAt 37) "well" ["sizes"] [.ints l,.sym a,.sym s] [.lst ns]
theorem draw1 (l:List Int) (a s n:Int):drawE l a s [.sym n]=.need (l.length<2 ^ 62) (.ite (decide (a<l.length))
  (.need (0≤a∧a<l.length∧l.length<2 ^ 62) (.need (n≠0) (.need (n≠0∧n.natAbs<2 ^ 128) (.ret ([.ints l,.sym (a+1),.sym s],.lst [.sym ((l.getD a.toNat 0).fmod n)])))))
  (.need (s.natAbs<2 ^ 64) (.need (a.natAbs<2 ^ 64) (.need (n≠0) (.need (n≠0∧n.natAbs<2 ^ 128) (.ret ([.ints l,.sym (a+1),.sym (drawN a s)],.lst [.sym ((drawN a s).fmod n)]))))))):=by kernel_rfl
def dN (n:Int) (x:R (List AV×AV)):R (List AV×AV):=.need (n≠0) (.need (n≠0∧n.natAbs<2 ^ 128) x)
theorem draw4 (l:List Int) (a s n1 n2 n3 n4:Int):drawE l a s [.sym n1,.sym n2,.sym n3,.sym n4]=.need (l.length<2 ^ 62) (.ite (decide (a<l.length))
  (.need (0≤a∧a<l.length∧l.length<2 ^ 62) (dN n1 (dN n2 (dN n3 (dN n4 (.ret ([.ints l,.sym (a+1),.sym s],.lst (drawR (l.getD a.toNat 0) [n1,n2,n3,n4]))))))))
  (.need (s.natAbs<2 ^ 64) (.need (a.natAbs<2 ^ 64) (dN n1 (dN n2 (dN n3 (dN n4 (.ret ([.ints l,.sym (a+1),.sym (drawN a s)],.lst (drawR (drawN a s) [n1,n2,n3,n4])))))))))):=by kernel_rfl
theorem draw5 (l:List Int) (a s n1 n2 n3 n4 n5:Int):drawE l a s [.sym n1,.sym n2,.sym n3,.sym n4,.sym n5]=.need (l.length<2 ^ 62) (.ite (decide (a<l.length))
  (.need (0≤a∧a<l.length∧l.length<2 ^ 62) (dN n1 (dN n2 (dN n3 (dN n4 (dN n5 (.ret ([.ints l,.sym (a+1),.sym s],.lst (drawR (l.getD a.toNat 0) [n1,n2,n3,n4,n5])))))))))
  (.need (s.natAbs<2 ^ 64) (.need (a.natAbs<2 ^ 64) (dN n1 (dN n2 (dN n3 (dN n4 (dN n5 (.ret ([.ints l,.sym (a+1),.sym (drawN a s)],.lst (drawR (drawN a s) [n1,n2,n3,n4,n5]))))))))))):=by kernel_rfl
theorem draw_holds (items args:List AV) (P:List AV×AV→Prop) (hh:(drawW items args).Holds P False):∃ items' args',(∀ V vs,HasL prog w V [] items vs→HasL prog w V [] items' vs)∧(∀ V vs,HasL prog w V [] args vs→HasL prog w V [] args' vs)∧(specW c20 0 60 (scopeAt 37) (bodyAt 37) "well" ["sizes"] items' args').Holds P False:=by
 unfold drawW at hh
 split at hh
 ·rename_i l a s sz
  split at hh
  ·rename_i i b1 j b2 ns e1 e2 e3
   obtain ⟨⟨⟨h1,h2,h3,h4,h5⟩,hl,hn⟩,hp⟩:=hh
   refine ⟨[.ints l,.sym i,.sym j],[.lst (ns.map .sym)],fun V vs ⟨v,r,q1,q2,u,r',q3,q4,x,r'',q5,q6,q7⟩=>⟨v,r,q1,q2,u,r',q3,sym_of e1 q4,x,r'',q5,sym_of e2 q6,q7⟩,fun V vs ⟨v,r,q1,⟨ad,us,n,z1,z2,z3⟩,q3⟩=>⟨v,r,q1,⟨ad,us,n,z1,z2,syms_of e3 z3⟩,q3⟩,?_⟩
   have big:l.length<2 ^ 62:=by omega
   have ok:∀ n∈ns,n≠0∧n.natAbs<2 ^ 128:=fun n hn'=>by
    obtain ⟨z1,z2⟩:=hn n hn'
    omega
   unfold drawV drawS at hp
   match ns,hl,ok,hp with
   | [n],_,ok,hp=>
    show (drawE l i j [.sym n]).Holds P False
    rw [draw1]
    obtain ⟨o1,o2⟩:=ok n (by simp)
    refine ⟨big,fun hb=>?_,fun hb=>?_⟩
    ·rw [hb] at hp
     exact ⟨⟨h1,of_decide_eq_true hb,big⟩,o1,⟨o1,o2⟩,hp⟩
    ·rw [hb] at hp
     exact ⟨by omega,by omega,o1,⟨o1,o2⟩,hp⟩
   | [n1,n2,n3,n4],_,ok,hp=>
    show (drawE l i j [.sym n1,.sym n2,.sym n3,.sym n4]).Holds P False
    rw [draw4]
    have o1:=ok n1 (by simp)
    have o2:=ok n2 (by simp)
    have o3:=ok n3 (by simp)
    have o4:=ok n4 (by simp)
    refine ⟨big,fun hb=>?_,fun hb=>?_⟩
    ·rw [hb] at hp
     exact ⟨⟨h1,of_decide_eq_true hb,big⟩,o1.1,o1,o2.1,o2,o3.1,o3,o4.1,o4,hp⟩
    ·rw [hb] at hp
     exact ⟨by omega,by omega,o1.1,o1,o2.1,o2,o3.1,o3,o4.1,o4,hp⟩
   | [n1,n2,n3,n4,n5],_,ok,hp=>
    show (drawE l i j [.sym n1,.sym n2,.sym n3,.sym n4,.sym n5]).Holds P False
    rw [draw5]
    have o1:=ok n1 (by simp)
    have o2:=ok n2 (by simp)
    have o3:=ok n3 (by simp)
    have o4:=ok n4 (by simp)
    have o5:=ok n5 (by simp)
    refine ⟨big,fun hb=>?_,fun hb=>?_⟩
    ·rw [hb] at hp
     exact ⟨⟨h1,of_decide_eq_true hb,big⟩,o1.1,o1,o2.1,o2,o3.1,o3,o4.1,o4,o5.1,o5,hp⟩
    ·rw [hb] at hp
     exact ⟨by omega,by omega,o1.1,o1,o2.1,o2,o3.1,o3,o4.1,o4,o5.1,o5,hp⟩
  ·exact hh.elim
 ·exact hh.elim
theorem draw_ok (X:(Kx w.params).In h) (lim:h.NoLimit):WellFn prog w h 591 ⟨0,drawW⟩:=(runW_ok (d37 X lim) (gok20 X lim) rfl 60).coerce draw_holds
end
end Mine
end
section
namespace Mine
theorem bitAnd_nat (a b:Nat):Builtin.bitAnd (a:Int) (b:Int)=((a &&& b:Nat):Int):=by
 unfold Builtin.bitAnd
 rw [decide_eq_true (Int.natCast_nonneg a),decide_eq_true (Int.natCast_nonneg b)]
 rfl
theorem bitNot_eq (x:Int):Builtin.bitNot x = -x - 1:=by unfold Builtin.bitNot; omega
theorem bitOr_nat (a b:Nat):Builtin.bitOr (a:Int) (b:Int)=((a ||| b:Nat):Int):=by
 unfold Builtin.bitOr
 rw [bitNot_eq,bitNot_eq,bitNot_eq]
 unfold Builtin.bitAnd
 rw [decide_eq_false (show ¬ (0:Int) ≤ -(a:Int) - 1 from by omega),decide_eq_false (show ¬ (0:Int) ≤ -(b:Int) - 1 from by omega)]
 dsimp only
 rw [bitNot_eq,bitNot_eq,bitNot_eq]
 have h1:(-(-(a:Int) - 1) - 1).toNat=a:=by omega
 have h2:(-(-(b:Int) - 1) - 1).toNat=b:=by omega
 rw [h1,h2]
 omega
theorem bit_cases (P:Nat→Nat→Prop) (h0:∀ b,P 0 b) (hs:∀ a b,P (a / 2) (b / 2)→P a b):∀ a b,P a b:=by
 intro a
 induction a using Nat.strongRecOn with
 | ind a ih=>
  intro b
  by_cases h:a=0
  ·subst h; exact h0 b
  ·exact hs a b (ih (a / 2) (by omega) (b / 2))
theorem xor_and_or:∀ a b:Nat,(a ^^^ b)+(a &&& b)=a ||| b:=by
 refine bit_cases _ (fun b=>by simp) (fun a b h=>?_)
 have e1:(a ^^^ b)=2*((a / 2) ^^^ (b / 2))+(a ^^^ b) % 2:=by
  rw [← Nat.xor_div_two]; omega
 have e2:(a &&& b)=2*((a / 2) &&& (b / 2))+(a &&& b) % 2:=by
  rw [← Nat.and_div_two]; omega
 have e3:(a ||| b)=2*((a / 2) ||| (b / 2))+(a ||| b) % 2:=by
  rw [← Nat.or_div_two]; omega
 have m1:(a ^^^ b) % 2=(a % 2 ^^^ b % 2):=Nat.xor_mod_two_pow (n:=1)
 have m2:(a &&& b) % 2=(a % 2 &&& b % 2):=Nat.and_mod_two_pow (n:=1)
 have m3:(a ||| b) % 2=(a % 2 ||| b % 2):=Nat.or_mod_two_pow (n:=1)
 have k:∀ x y:Nat,x<2→y<2→(x ^^^ y)+(x &&& y)=(x ||| y):=by
  intro x y hx hy
  match x,y,hx,hy with
  | 0,0,_,_=>rfl
  | 0,1,_,_=>rfl
  | 1,0,_,_=>rfl
  | 1,1,_,_=>rfl
 have kk:=k (a % 2) (b % 2) (by omega) (by omega)
 rw [e1,e2,e3,m1,m2,m3]
 omega
theorem bitXor_nat (a b:Nat):Builtin.bitXor (a:Int) (b:Int)=((a ^^^ b:Nat):Int):=by
 unfold Builtin.bitXor
 rw [bitOr_nat,bitAnd_nat]
 have h:=xor_and_or a b
 omega
theorem fdiv_nat (a k:Nat):Int.fdiv (a:Int) ((2:Int) ^ k)=((a >>> k:Nat):Int):=by
 rw [Nat.shiftRight_eq_div_pow]
 have:((2:Int) ^ k)=((2 ^ k:Nat):Int):=by push_cast; rfl
 rw [this,Int.fdiv_eq_ediv_of_nonneg _ (Int.natCast_nonneg _)]
 rfl
end Mine
end
section
open PySem.SeqAt MineH
namespace Mine
abbrev Row:=Nat×Nat×Str
def rowsN:List Row:=[(127,55,Str.ofString "lui"),(127,23,Str.ofString "auipc"),(127,111,Str.ofString "jal"),(28799,103,Str.ofString "jalr"),(28799,99,Str.ofString "beq"),(28799,4195,Str.ofString "bne"),(28799,16483,Str.ofString "blt"),(28799,20579,Str.ofString "bge"),(28799,24675,Str.ofString "bltu"),(28799,28771,Str.ofString "bgeu"),(28799,3,Str.ofString "lb"),(28799,4099,Str.ofString "lh"),(28799,8195,Str.ofString "lw"),(28799,16387,Str.ofString "lbu"),(28799,20483,Str.ofString "lhu"),(28799,35,Str.ofString "sb"),(28799,4131,Str.ofString "sh"),(28799,8227,Str.ofString "sw"),(28799,19,Str.ofString "addi"),(28799,8211,Str.ofString "slti"),(28799,12307,Str.ofString "sltiu"),(28799,16403,Str.ofString "xori"),(28799,24595,Str.ofString "ori"),(28799,28691,Str.ofString "andi"),(4261441663,4115,Str.ofString "slli"),(4261441663,20499,Str.ofString "srli"),(4261441663,1073762323,Str.ofString "srai"),(4261441663,51,Str.ofString "add"),(4261441663,1073741875,Str.ofString "sub"),(4261441663,4147,Str.ofString "sll"),(4261441663,8243,Str.ofString "slt"),(4261441663,12339,Str.ofString "sltu"),(4261441663,16435,Str.ofString "xor"),(4261441663,20531,Str.ofString "srl"),(4261441663,1073762355,Str.ofString "sra"),(4261441663,24627,Str.ofString "or"),(4261441663,28723,Str.ofString "and"),(4261441663,33554483,Str.ofString "mul"),(4261441663,33558579,Str.ofString "mulh"),(4261441663,33562675,Str.ofString "mulhsu"),(4261441663,33566771,Str.ofString "mulhu"),(4261441663,33570867,Str.ofString "div"),(4261441663,33574963,Str.ofString "divu"),(4261441663,33579059,Str.ofString "rem"),(4261441663,33583155,Str.ofString "remu"),(4027580415,15,Str.ofString "fence"),(4294967295,115,Str.ofString "ecall"),(4294967295,1048691,Str.ofString "ebreak")]
def kN:List Int:=[55,23,111,103,99,4195,16483,20579,24675,28771,3,4099,8195,16387,20483,35,4131,8227,19,8211,12307,16403,24595,28691,4115,20499,1073762323,51,1073741875,4147,8243,12339,16435,20531,1073762355,24627,28723,33554483,33558579,33562675,33566771,33570867,33574963,33579059,33583155,15,115,1048691]
def nN:List Str:=[Str.ofString "lui",Str.ofString "auipc",Str.ofString "jal",Str.ofString "jalr",Str.ofString "beq",Str.ofString "bne",Str.ofString "blt",Str.ofString "bge",Str.ofString "bltu",Str.ofString "bgeu",Str.ofString "lb",Str.ofString "lh",Str.ofString "lw",Str.ofString "lbu",Str.ofString "lhu",Str.ofString "sb",Str.ofString "sh",Str.ofString "sw",Str.ofString "addi",Str.ofString "slti",Str.ofString "sltiu",Str.ofString "xori",Str.ofString "ori",Str.ofString "andi",Str.ofString "slli",Str.ofString "srli",Str.ofString "srai",Str.ofString "add",Str.ofString "sub",Str.ofString "sll",Str.ofString "slt",Str.ofString "sltu",Str.ofString "xor",Str.ofString "srl",Str.ofString "sra",Str.ofString "or",Str.ofString "and",Str.ofString "mul",Str.ofString "mulh",Str.ofString "mulhsu",Str.ofString "mulhu",Str.ofString "div",Str.ofString "divu",Str.ofString "rem",Str.ofString "remu",Str.ofString "fence",Str.ofString "ecall",Str.ofString "ebreak"]
def opOf (W:Nat):Nat:=W &&& 127
def lowOf (W:Nat):Nat:=(W >>> 12) &&& 7
def clsM (op low:Nat):Nat:=
 if op=55∨op=23∨op=111 then 127 else if op=115 then 4294967295 else if op=15 then 4027580415
 else if op=51∨(op=19∧(low=1∨low=5)) then 4261441663 else 28799
def clsW (W:Nat):Nat:=clsM (opOf W) (lowOf W)
theorem clsM_mem (op low:Nat):clsM op low=127∨clsM op low=4294967295∨clsM op low=4027580415∨clsM op low=4261441663∨clsM op low=28799:=by
 unfold clsM
 repeat' split
 all_goals simp
theorem and_sub (W m k:Nat) (h:m &&& k=k):(W &&& m) &&& k=W &&& k:=by rw [Nat.and_assoc,h]
theorem op_and {W m:Nat} (h:m &&& 127=127):opOf (W &&& m)=opOf W:=and_sub W m 127 h
theorem low_and {W m:Nat} (h:(m >>> 12) &&& 7=7):lowOf (W &&& m)=lowOf W:=by
 unfold lowOf
 rw [Nat.shiftRight_and_distrib,Nat.and_assoc,h]
theorem cls_and (W:Nat):clsW (W &&& clsW W)=clsW W:=by
 have hm:=clsM_mem (opOf W) (lowOf W)
 show clsW (W &&& clsM (opOf W) (lowOf W))=clsM (opOf W) (lowOf W)
 have hop:opOf (W &&& clsM (opOf W) (lowOf W))=opOf W:=by
  rcases hm with h | h | h | h | h<;>rw [h]<;>exact op_and (by decide)
 unfold clsW
 rw [hop]
 rcases hm with h | h
 ·have:opOf W=55∨opOf W=23∨opOf W=111:=by
   unfold clsM at h
   repeat' split at h
   all_goals first | assumption | (exfalso; revert h; decide)
  unfold clsM
  rw [if_pos this,if_pos this]
 ·have hl:lowOf (W &&& clsM (opOf W) (lowOf W))=lowOf W:=by
   rcases h with h | h | h | h<;>rw [h]<;>exact low_and (by decide)
  rw [hl]
theorem rows_cls:∀ r∈rowsN,r.1=clsW r.2.1∧r.2.1 &&& r.1=r.2.1:=by decide +kernel
theorem rows_name:∀ r∈rowsN,strAt kN nN ((r.2.1:Nat):Int) (Str.ofString "")=r.2.2:=by decide +kernel
theorem rows_key:kN=rowsN.map fun r=>((r.2.1:Nat):Int):=by decide +kernel
def hits (W:Nat) (r:Row):Prop:=W &&& r.1=r.2.1
theorem hit_cls {W:Nat} {r:Row} (hr:r∈rowsN) (h:hits W r):r.1=clsW W∧r.2.1=W &&& clsW W:=by
 obtain ⟨e1,e2⟩:=rows_cls r hr
 have h:W &&& r.1=r.2.1:=h
 have hm:=clsM_mem (opOf r.2.1) (lowOf r.2.1)
 rw [show clsM (opOf r.2.1) (lowOf r.2.1)=r.1 from e1.symm] at hm
 have hop:opOf W=opOf r.2.1:=by
  rw [← h]
  rcases hm with q | q | q | q | q<;>rw [q]<;>exact (op_and (by decide)).symm
 have hc:clsW W=r.1:=by
  rw [e1]
  unfold clsW
  rw [hop]
  rcases hm with q | q
  ·have:opOf r.2.1=55∨opOf r.2.1=23∨opOf r.2.1=111:=by
    rw [e1] at q
    unfold clsW clsM at q
    repeat' split at q
    all_goals first | assumption | (exfalso; revert q; decide)
   unfold clsM
   rw [if_pos this,if_pos this]
  ·have hl:lowOf W=lowOf r.2.1:=by
    rw [← h]
    rcases q with q | q | q | q<;>rw [q]<;>exact (low_and (by decide)).symm
   rw [hl]
 exact ⟨hc.symm,by rw [hc,h]⟩
theorem hit_of_key {W:Nat} {r:Row} (hr:r∈rowsN) (h:r.2.1=W &&& clsW W):hits W r:=by
 show W &&& r.1=r.2.1
 rw [(rows_cls r hr).1,h,cls_and]
theorem strAt_miss {x:Int} {d:Str}:∀ {ks:List Int} {vs:List Str},x ∉ ks→strAt ks vs x d=d
 | [],_,_=>by unfold strAt; rfl
 | _ :: _,[],_=>rfl
 | k :: ks,v :: vs,h=>by
  unfold strAt
  rw [decide_eq_false (fun q=>h (by simp [q]))]
  exact strAt_miss fun q=>h (by simp [q])
def nameL (W:Nat):Str:=strAt kN nN ((W &&& clsW W:Nat):Int) (Str.ofString "")
theorem nameL_hit {W:Nat} {r:Row} (hr:r∈rowsN) (h:hits W r):nameL W=r.2.2:=by
 unfold nameL
 rw [← (hit_cls hr h).2]
 exact rows_name r hr
theorem nameL_miss {W:Nat} (h:∀ r∈rowsN,¬ hits W r):nameL W=Str.ofString "" := by
 refine strAt_miss fun q=>?_
 rw [rows_key] at q
 obtain ⟨r,hr,e⟩:=List.mem_map.mp q
 exact h r hr (hit_of_key hr (by exact_mod_cast e))
def nameTree (w:Int):List Row→R AV
 | []=>.ret (.str (Str.ofString ""))
 | (m,b,n) :: r=>.ite (decide (Builtin.bitAnd w ((m:Nat):Int)=((b:Nat):Int))) (.ret (.str n)) (nameTree w r)
theorem nameTree_cases {W:Nat} {P:AV→Prop} {X:Prop}:∀ {l:List Row},(nameTree (W:Int) l).Holds P X→(∃ r∈l,hits W r∧P (.str r.2.2))∨((∀ r∈l,¬ hits W r)∧P (.str (Str.ofString "")))
 | [],h=>.inr ⟨fun _ h=>(nomatch h),h⟩
 | (m,b,n) :: l,⟨h1,h2⟩=>by
  by_cases q:W &&& m=b
  ·exact .inl ⟨(m,b,n),by simp,q,h1 (decide_eq_true (by rw [bitAnd_nat,q]))⟩
  ·have h2:=h2 (decide_eq_false (by rw [bitAnd_nat]; exact_mod_cast q))
   rcases nameTree_cases h2 with ⟨r,z1,z2,z3⟩ | ⟨z1,z2⟩
   ·exact .inl ⟨r,by simp [z1],z2,z3⟩
   ·refine .inr ⟨fun r hr=>?_,z2⟩
    rcases List.mem_cons.mp hr with e | e
    ·subst e; exact q
    ·exact z1 r e
theorem nameTree_name {W:Nat} {P:AV→Prop} {X:Prop} (h:(nameTree (W:Int) rowsN).Holds P X):P (.str (nameL W)):=by
 rcases nameTree_cases h with ⟨r,z1,z2,z3⟩ | ⟨z1,z2⟩
 ·rw [nameL_hit z1 z2]; exact z3
 ·rw [nameL_miss z1]; exact z2
end Mine
end
section
open PySem.SeqAt MineH
namespace Mine
section
variable {prog:Program} {w:World} {h:Heap}
def nameS:List AV→R AV:=fun args=>match args with
 | [.sym w]=>.need (0≤w∧w<4294967296) (nameTree w rowsN)
 | _=>.fail
theorem nameTree_noexc (w:Int):∀ l:List Row,NoExc (nameTree w l)
 | []=>trivial
 | (_,_,_) :: l=>⟨trivial,nameTree_noexc w l⟩
theorem nameS_noexc (l:List AV):NoExc (nameS l):=by
 unfold nameS
 split
 ·exact nameTree_noexc _ _
 ·trivial
theorem name_tree (w:Int):run c20 0 28 ["word"] [.sym w] =
 .ite (memI (Builtin.bitAnd w 127) [55,23,111])
  (.need (Builtin.bitAnd w 127∈kN) (.ret (.str (strAt kN nN (Builtin.bitAnd w 127) ⟨#[]⟩))))
  (.need (true=true) (.ite (Builtin.bitAnd w 127==115) (.ret (.str (strAt kN nN w (Str.ofString ""))))
   (.need (true=true) (.ite (Builtin.bitAnd w 127==15)
    (.need (true=true) (.need ((((Builtin.bitAnd w 4027580415==15)=true)→True)∧(((Builtin.bitAnd w 4027580415==15)=false)→True)) (.ret (.str (match Builtin.bitAnd w 4027580415==15 with | true=>Str.ofString "fence" | false=>Str.ofString "")))))
    (.need (true=true) (.need (((Builtin.bitAnd w 127==51)=false)→true=true∧(((Builtin.bitAnd w 127==19)=true)→True)∧True)
     (.ite ((Builtin.bitAnd w 127==51)||((Builtin.bitAnd w 127==19)&&memI (Builtin.bitAnd (w.fdiv (2 ^ (12:Int).toNat)) 7) [1,5]))
      (.ret (.str (strAt kN nN (Builtin.bitAnd w 4261441663) (Str.ofString ""))))
      (.ret (.str (strAt kN nN (Builtin.bitAnd w 28799) (Str.ofString ""))))))))))):=by kernel_rfl
theorem memI_iff {x:Int}:∀ {l:List Int},memI x l=true↔x∈l
 | []=>by simp [memI]
 | k :: l=>by
  simp only [memI,Bool.or_eq_true,beq_iff_eq,memI_iff (l:=l),List.mem_cons]
  constructor
  ·rintro (h | h)
   ·exact .inl h.symm
   ·exact .inr h
  ·rintro (h | h)
   ·exact .inl h.symm
   ·exact .inr h
theorem strAt_empty:∀ x∈([55,23,111]:List Int),strAt kN nN x ⟨#[]⟩=strAt kN nN x (Str.ofString "")∧x∈kN:=by decide +kernel
theorem fence_at:strAt kN nN 15 (Str.ofString "")=Str.ofString "fence" := by decide +kernel
theorem name_holds (args:List AV) (P:AV→Prop) (hh:(nameS args).Holds P False):(run c20 0 28 ["word"] args).Holds (fun av=>∃ av',P av'∧Sub prog w av av') False:=by
 unfold nameS at hh
 split at hh
 ·rename_i x
  obtain ⟨⟨h0,h1⟩,hp⟩:=hh
  obtain ⟨W,rfl⟩:=Int.eq_ofNat_of_zero_le h0
  have hW:W<4294967296:=by omega
  have hn:=nameTree_name hp
  refine holds_sub ?_
  rw [name_tree]
  have hop:Builtin.bitAnd (W:Int) 127=((opOf W:Nat):Int):=bitAnd_nat W 127
  have hlow:Builtin.bitAnd (Int.fdiv (W:Int) (2 ^ (12:Int).toNat)) 7=((lowOf W:Nat):Int):=by
   rw [show (12:Int).toNat=12 from rfl,fdiv_nat]
   exact bitAnd_nat _ 7
  have hR:Builtin.bitAnd (W:Int) 4261441663=((W &&& 4261441663:Nat):Int):=bitAnd_nat W 4261441663
  have hI:Builtin.bitAnd (W:Int) 28799=((W &&& 28799:Nat):Int):=bitAnd_nat W 28799
  have hF:Builtin.bitAnd (W:Int) 4027580415=((W &&& 4027580415:Nat):Int):=bitAnd_nat W 4027580415
  rw [hop,hlow,hR,hI,hF]
  have cl:clsW W=clsM (opOf W) (lowOf W):=rfl
  unfold nameL at hn
  refine ⟨fun c=>?_,fun c=>⟨rfl,fun c2=>?_,fun c2=>⟨rfl,fun c3=>⟨rfl,⟨fun _=>trivial,fun _=>trivial⟩,?_⟩,fun c3=>⟨rfl,fun _=>⟨rfl,fun _=>trivial,trivial⟩,fun c4=>?_,fun c4=>?_⟩⟩⟩⟩
  ·have c:=memI_iff.mp c
   obtain ⟨z1,z2⟩:=strAt_empty _ c
   refine ⟨z2,?_⟩
   have:opOf W=55∨opOf W=23∨opOf W=111:=by
    simp only [List.mem_cons,List.not_mem_nil,or_false] at c
    omega
   have e:clsW W=127:=by rw [cl]; unfold clsM; rw [if_pos this]
   rw [e] at hn
   show P _
   rw [z1]; exact hn
  all_goals
   have n1:¬ (opOf W=55∨opOf W=23∨opOf W=111):=fun q=>by
    have:memI ((opOf W:Nat):Int) [55,23,111]=true:=memI_iff.mpr (by
     simp only [List.mem_cons,List.not_mem_nil,or_false]; omega)
    rw [this] at c; cases c
  ·have:opOf W=115:=by have:=eq_of_beq c2; exact_mod_cast this
   have e:clsW W=4294967295:=by rw [cl]; unfold clsM; rw [if_neg n1,if_pos this]
   rw [e] at hn
   have e2:W &&& 4294967295=W:=by
    have:=Nat.and_two_pow_sub_one_eq_mod W 32
    rw [show (2:Nat) ^ 32 - 1=4294967295 from rfl] at this
    rw [this]; exact Nat.mod_eq_of_lt hW
   rw [e2] at hn
   exact hn
  all_goals
   have n2:¬ opOf W=115:=fun q=>by rw [q] at c2; exact absurd c2 (by decide)
  ·have:opOf W=15:=by have:=eq_of_beq c3; exact_mod_cast this
   have e:clsW W=4027580415:=by rw [cl]; unfold clsM; rw [if_neg n1,if_neg n2,if_pos this]
   rw [e] at hn
   show P _
   cases c4:(((W &&& 4027580415:Nat):Int)==15) with
   | true=>
    have:=eq_of_beq c4
    rw [this,fence_at] at hn
    exact hn
   | false=>
    have ne:((W &&& 4027580415:Nat):Int)≠15:=fun q=>by rw [q] at c4; exact absurd c4 (by decide)
    rw [strAt_miss fun q=>?_] at hn
    ·exact hn
    ·rw [rows_key] at q
     obtain ⟨r,hr,er⟩:=List.mem_map.mp q
     have hr':hits W r:=hit_of_key hr (by rw [e]; exact_mod_cast er)
     have m1:=(hit_cls hr hr').1
     rw [e] at m1
     have fin:∀ r∈rowsN,r.1=4027580415→r.2.1=15:=by decide +kernel
     have:=fin r hr m1
     rw [this] at er
     exact ne er.symm
  all_goals
   have n3:¬ opOf W=15:=fun q=>by rw [q] at c3; exact absurd c3 (by decide)
  ·have:opOf W=51∨(opOf W=19∧(lowOf W=1∨lowOf W=5)):=by
    simp only [Bool.or_eq_true,Bool.and_eq_true,beq_iff_eq,memI_iff,List.mem_cons,List.not_mem_nil,or_false] at c4
    omega
   have e:clsW W=4261441663:=by rw [cl]; unfold clsM; rw [if_neg n1,if_neg n2,if_neg n3,if_pos this]
   rw [e] at hn
   exact hn
  ·have:¬ (opOf W=51∨(opOf W=19∧(lowOf W=1∨lowOf W=5))):=fun q=>by
    have:((((opOf W:Nat):Int)==51)||((((opOf W:Nat):Int)==19)&&memI ((lowOf W:Nat):Int) [1,5]))=true:=by
     simp only [Bool.or_eq_true,Bool.and_eq_true,beq_iff_eq,memI_iff,List.mem_cons,List.not_mem_nil,or_false]
     omega
    rw [this] at c4; cases c4
   have e:clsW W=28799:=by rw [cl]; unfold clsM; rw [if_neg n1,if_neg n2,if_neg n3,if_neg this]
   rw [e] at hn
   exact hn
 ·exact hh.elim
def c21:Ctx:=c20.add "name_of" 0 nameS
theorem gok21 (X:(Kx w.params).In h) (lim:h.NoLimit):GOK prog w c21 h:=gok_add (gok20 X lim) (gm_of X (by kernel_rfl)) ⟨o539 w.params,_,X 539 _ (by kernel_rfl),rfl⟩ (run_ok' (d28 X lim) (gok20 X lim) rfl name_holds) nameS_noexc
end
end Mine
end
section
open PySem.SeqAt MineH
namespace Mine
section
variable {prog:Program} {w:World} {h:Heap}
def sgx (v n:Int):Int:=Builtin.bitAnd v (1*2 ^ n.toNat - 1)
def sgc (v n:Int):Bool:=(sgx v n).fdiv (2 ^ (n - 1).toNat)==1
def sgV (v n:Int):Int:=match sgc v n with | true=>sgx v n - 1*2 ^ n.toNat | false=>sgx v n
def sgN (v n:Int) (x:R AV):R AV:=.need (true=true) (.need ((sgc v n=true→True)∧(sgc v n=false→True)) x)
theorem sgN_holds {v n:Int} {x:R AV} {P:AV→Prop} {X:Prop} (h:x.Holds P X):(sgN v n x).Holds P X:=⟨rfl,⟨fun _=>trivial,fun _=>trivial⟩,h⟩
def sh (w k:Int):Int:=w.fdiv (2 ^ k.toNat)
def up (w k:Int):Int:=w*2 ^ k.toNat
def im (w k m:Int):Int:=Builtin.bitAnd (sh w k) m
def ivS (w:Int):Int:=Builtin.bitOr (up (sh w 25) 5) (im w 7 31)
def ivB (w:Int):Int:=Builtin.bitOr (Builtin.bitOr (Builtin.bitOr (up (sh w 31) 12) (up (im w 7 1) 11)) (up (im w 25 63) 5)) (up (im w 8 15) 1)
def ivJ (w:Int):Int:=Builtin.bitOr (Builtin.bitOr (Builtin.bitOr (up (sh w 31) 20) (up (im w 12 255) 12)) (up (im w 20 1) 11)) (up (im w 21 1023) 1)
def immForms:List Str:=["I","H","S","B","U","J","F"]
def immV (f:Str) (w:Int):Int:=match f==("I" : Str) with
 | true=>sgV (sh w 20) 12
 | false=>match f==("H" : Str) with
  | true=>im w 20 31
  | false=>match f==("S" : Str) with
   | true=>sgV (ivS w) 12
   | false=>match f==("B" : Str) with
    | true=>sgV (ivB w) 13
    | false=>match f==("U" : Str) with
     | true=>sh w 12
     | false=>match f==("J" : Str) with
      | true=>sgV (ivJ w) 21
      | false=>im w 20 255
def immS:List AV→R AV:=fun args=>match args with
 | [.str f,.sym w]=>guardB (memS f immForms) (.need (0≤w∧w<4294967296) (.ret (.sym (immV f w))))
 | _=>.fail
theorem immS_noexc (l:List AV):NoExc (immS l):=by
 unfold immS
 split
 ·unfold guardB
  split<;>trivial
 ·trivial
abbrev immE (f:Str) (w:Int):R AV:=run c21 1 23 ["form","word"] [.str f,.sym w]
theorem immI (w:Int):immE "I" w=sgN (sh w 20) 12 (.ret (.sym (sgV (sh w 20) 12))):=by kernel_rfl
theorem immH (w:Int):immE "H" w=.ret (.sym (im w 20 31)):=by kernel_rfl
theorem immSS (w:Int):immE "S" w=.need ((sh w 25).natAbs<2 ^ 64) (sgN (ivS w) 12 (.ret (.sym (sgV (ivS w) 12)))):=by kernel_rfl
theorem immB (w:Int):immE "B" w=.need ((sh w 31).natAbs<2 ^ 64) (.need ((im w 7 1).natAbs<2 ^ 64) (.need ((im w 25 63).natAbs<2 ^ 64) (.need ((im w 8 15).natAbs<2 ^ 64) (sgN (ivB w) 13 (.ret (.sym (sgV (ivB w) 13))))))):=by kernel_rfl
theorem immU (w:Int):immE "U" w=.ret (.sym (sh w 12)):=by kernel_rfl
theorem immJ (w:Int):immE "J" w=.need ((sh w 31).natAbs<2 ^ 64) (.need ((im w 12 255).natAbs<2 ^ 64) (.need ((im w 20 1).natAbs<2 ^ 64) (.need ((im w 21 1023).natAbs<2 ^ 64) (sgN (ivJ w) 21 (.ret (.sym (sgV (ivJ w) 21))))))):=by kernel_rfl
theorem immF (w:Int):immE "F" w=.ret (.sym (im w 20 255)):=by kernel_rfl
theorem sh_nat (W:Nat) (k:Nat):sh (W:Int) (k:Int)=((W >>> k:Nat):Int):=by
 unfold sh
 rw [Int.toNat_natCast,fdiv_nat]
theorem sh_lt {W:Nat} (hW:W<4294967296) (k:Nat):(sh (W:Int) (k:Int)).natAbs<2 ^ 64:=by
 rw [sh_nat,Int.natAbs_natCast,Nat.shiftRight_eq_div_pow]
 exact Nat.lt_of_le_of_lt (Nat.div_le_self _ _) (by omega)
theorem im_nat (W:Nat) (k m:Nat):im (W:Int) (k:Int) (m:Int)=(((W >>> k) &&& m:Nat):Int):=by
 unfold im
 rw [sh_nat,bitAnd_nat]
theorem im_lt (W:Nat) (k m:Nat) (hm:m<4294967296):(im (W:Int) (k:Int) (m:Int)).natAbs<2 ^ 64:=by
 rw [im_nat,Int.natAbs_natCast]
 exact Nat.lt_of_le_of_lt Nat.and_le_right (by omega)
theorem imm_holds (args:List AV) (P:AV→Prop) (hh:(immS args).Holds P False):(run c21 1 23 ["form","word"] args).Holds (fun av=>∃ av',P av'∧Sub prog w av av') False:=by
 unfold immS at hh
 split at hh
 ·rename_i f x
  obtain ⟨hm,⟨h0,h1⟩,hp⟩:=guardB_holds hh
  obtain ⟨W,rfl⟩:=Int.eq_ofNat_of_zero_le h0
  have hW:W<4294967296:=by omega
  refine holds_sub ?_
  have hp:P (.sym (immV f (W:Int))):=hp
  show (immE f (W:Int)).Holds P False
  simp only [immForms,memS] at hm
  repeat' split at hm
  all_goals first | cases hm | skip
  ·rename_i q
   rw [← eq_of_beq q] at hp ⊢
   rw [immI]; exact sgN_holds hp
  ·rename_i q
   rw [← eq_of_beq q] at hp ⊢
   rw [immH]; exact hp
  ·rename_i q
   rw [← eq_of_beq q] at hp ⊢
   rw [immSS]; exact ⟨sh_lt hW 25,sgN_holds hp⟩
  ·rename_i q
   rw [← eq_of_beq q] at hp ⊢
   rw [immB]; exact ⟨sh_lt hW 31,im_lt W 7 1 (by decide),im_lt W 25 63 (by decide),im_lt W 8 15 (by decide),sgN_holds hp⟩
  ·rename_i q
   rw [← eq_of_beq q] at hp ⊢
   rw [immU]; exact hp
  ·rename_i q
   rw [← eq_of_beq q] at hp ⊢
   rw [immJ]; exact ⟨sh_lt hW 31,im_lt W 12 255 (by decide),im_lt W 20 1 (by decide),im_lt W 21 1023 (by decide),sgN_holds hp⟩
  ·rename_i q
   rw [← eq_of_beq q] at hp ⊢
   rw [immF]; exact hp
 ·exact hh.elim
def c22:Ctx:=c21.add "imm_of" 1 immS
theorem gok22 (X:(Kx w.params).In h) (lim:h.NoLimit):GOK prog w c22 h:=gok_add (gok21 X lim) (gm_of X (by kernel_rfl)) ⟨o314 w.params,_,X 314 _ (by kernel_rfl),rfl⟩ (run_ok' (d23 X lim) (gok21 X lim) rfl imm_holds) immS_noexc
end
end Mine
end
section
open PySem.SeqAt MineH
namespace Mine
section
variable {prog:Program} {w:World} {h:Heap}
abbrev RowF:=Nat×Nat×Str×Str
def rowsF:List RowF:=[(127,55,Str.ofString "lui",Str.ofString "U"),(127,23,Str.ofString "auipc",Str.ofString "U"),(127,111,Str.ofString "jal",Str.ofString "J"),(28799,103,Str.ofString "jalr",Str.ofString "I"),(28799,99,Str.ofString "beq",Str.ofString "B"),(28799,4195,Str.ofString "bne",Str.ofString "B"),(28799,16483,Str.ofString "blt",Str.ofString "B"),(28799,20579,Str.ofString "bge",Str.ofString "B"),(28799,24675,Str.ofString "bltu",Str.ofString "B"),(28799,28771,Str.ofString "bgeu",Str.ofString "B"),(28799,3,Str.ofString "lb",Str.ofString "I"),(28799,4099,Str.ofString "lh",Str.ofString "I"),(28799,8195,Str.ofString "lw",Str.ofString "I"),(28799,16387,Str.ofString "lbu",Str.ofString "I"),(28799,20483,Str.ofString "lhu",Str.ofString "I"),(28799,35,Str.ofString "sb",Str.ofString "S"),(28799,4131,Str.ofString "sh",Str.ofString "S"),(28799,8227,Str.ofString "sw",Str.ofString "S"),(28799,19,Str.ofString "addi",Str.ofString "I"),(28799,8211,Str.ofString "slti",Str.ofString "I"),(28799,12307,Str.ofString "sltiu",Str.ofString "I"),(28799,16403,Str.ofString "xori",Str.ofString "I"),(28799,24595,Str.ofString "ori",Str.ofString "I"),(28799,28691,Str.ofString "andi",Str.ofString "I"),(4261441663,4115,Str.ofString "slli",Str.ofString "H"),(4261441663,20499,Str.ofString "srli",Str.ofString "H"),(4261441663,1073762323,Str.ofString "srai",Str.ofString "H"),(4261441663,51,Str.ofString "add",Str.ofString "R"),(4261441663,1073741875,Str.ofString "sub",Str.ofString "R"),(4261441663,4147,Str.ofString "sll",Str.ofString "R"),(4261441663,8243,Str.ofString "slt",Str.ofString "R"),(4261441663,12339,Str.ofString "sltu",Str.ofString "R"),(4261441663,16435,Str.ofString "xor",Str.ofString "R"),(4261441663,20531,Str.ofString "srl",Str.ofString "R"),(4261441663,1073762355,Str.ofString "sra",Str.ofString "R"),(4261441663,24627,Str.ofString "or",Str.ofString "R"),(4261441663,28723,Str.ofString "and",Str.ofString "R"),(4261441663,33554483,Str.ofString "mul",Str.ofString "R"),(4261441663,33558579,Str.ofString "mulh",Str.ofString "R"),(4261441663,33562675,Str.ofString "mulhsu",Str.ofString "R"),(4261441663,33566771,Str.ofString "mulhu",Str.ofString "R"),(4261441663,33570867,Str.ofString "div",Str.ofString "R"),(4261441663,33574963,Str.ofString "divu",Str.ofString "R"),(4261441663,33579059,Str.ofString "rem",Str.ofString "R"),(4261441663,33583155,Str.ofString "remu",Str.ofString "R"),(4027580415,15,Str.ofString "fence",Str.ofString "F"),(4294967295,115,Str.ofString "ecall",Str.ofString "E"),(4294967295,1048691,Str.ofString "ebreak",Str.ofString "E")]
def f3 (a b c:Str):List Str:=[a,b,c]
def keysF (f:Str):List Str:=match memS f ["R"] with
 | true=>["rd","rs1","rs2"]
 | false=>match memS f ["I","H"] with
  | true=>["rd","rs1","imm"]
  | false=>match memS f ["S","B"] with
   | true=>["rs1","rs2","imm"]
   | false=>match memS f ["U","J"] with
    | true=>["rd","imm"]
    | false=>match memS f ["F"] with
     | true=>["imm"]
     | false=>[]
def fieldV (f:Str) (w:Int) (k:Str):Int:=match k==("rd" : Str) with
 | true=>im w 7 31
 | false=>match k==("rs1" : Str) with
  | true=>im w 15 31
  | false=>match k==("rs2" : Str) with
   | true=>im w 20 31
   | false=>immV f w
def decF (w:Int) (n f:Str):AV:=.tup [.str n,.dS (keysF f) ((keysF f).map fun k=>.sym (fieldV f w k))]
def decT (w:Int):List RowF→R AV
 | []=>.ret .none
 | (m,b,n,f) :: l=>.ite (decide (Builtin.bitAnd w (m:Int)=(b:Int))) (match memS f immForms with
  | true=>.need (0≤w∧w<4294967296) (.ret (decF w n f))
  | false=>.ret (decF w n f)) (decT w l)
def decV (w:Int):List RowF→AV
 | []=>.none
 | (m,b,n,f) :: l=>.ite (decide (Builtin.bitAnd w (m:Int)=(b:Int))) (decF w n f) (decV w l)
def decS:List AV→R AV:=fun args=>match args with
 | [.sym w]=>.need (0≤w∧w<4294967296) (.ret (decV w rowsF))
 | _=>.fail
theorem decS_noexc (l:List AV):NoExc (decS l):=by
 unfold decS
 split<;>trivial
theorem dec_tree (w:Int):run c22 2 29 ["word"] [.sym w]=.need (0≤w∧w<4294967296) (decT w rowsF):=by kernel_rfl
theorem decT_holds {x:Int} (hx:0≤x∧x<4294967296):∀ l:List RowF,(decT x l).Holds (fun av=>Sub prog w av (decV x l)) False
 | []=>fun _ _ hv=>hv
 | (m,b,n,f) :: l=>by
  refine ⟨fun e=>?_,fun e=>?_⟩
  ·have:Sub prog w (decF x n f) (decV x ((m,b,n,f) :: l)):=by
    intro V v hv
    exact ⟨fun _=>hv,fun e'=>absurd (e.symm.trans e') Bool.noConfusion⟩
   cases memS f immForms with
   | true=>exact ⟨hx,this⟩
   | false=>exact this
  ·refine R.holds_mono (fun av hs=>?_) id (decT_holds hx l)
   intro V v hv
   exact ⟨fun e'=>absurd (e'.symm.trans e) Bool.noConfusion,fun _=>hs _ _ hv⟩
theorem dec_holds (args:List AV) (P:AV→Prop) (hh:(decS args).Holds P False):(run c22 2 29 ["word"] args).Holds (fun av=>∃ av',P av'∧Sub prog w av av') False:=by
 unfold decS at hh
 split at hh
 ·rename_i x
  obtain ⟨hx,hp⟩:=hh
  rw [dec_tree]
  exact ⟨hx,R.holds_mono (fun av hs=>⟨_,hp,hs⟩) id (decT_holds hx rowsF)⟩
 ·exact hh.elim
def c23:Ctx:=c22.add "decode" 2 decS
theorem gok23 (X:(Kx w.params).In h) (lim:h.NoLimit):GOK prog w c23 h:=gok_add (gok22 X lim) (gm_of X (by kernel_rfl)) ⟨o546 w.params,_,X 546 _ (by kernel_rfl),rfl⟩ (run_ok' (d29 X lim) (gok22 X lim) rfl dec_holds) decS_noexc
end
end Mine
end
section
open PySem.SeqAt MineH
namespace Mine
section
variable {prog:Program} {w:World} {h:Heap}
def rk (w:Int):Nat→Int
 | 0=>w
 | k+1=>(rk w k).fdiv (2 ^ (1:Int).toNat)
def bt (w:Int) (k:Nat):Int:=Builtin.bitAnd (rk w k) 1
def bitNeeds (w:Int):Nat→Nat→R AV→R AV
 | 0,_,x=>x
 | n+1,k,x=>.need ((bt w k).natAbs<2 ^ 64) (bitNeeds w n (k+1) x)
def seg:Nat→Nat→Nat→List (Nat×Nat)
 | _,_,0=>[]
 | k,p,n+1=>(k,p) :: seg (k+1) (p+1) n
def gath (w:Int):Int→List (Nat×Nat)→Int
 | a,[]=>a
 | a,(k,p) :: l=>gath w (a+bt w k*2 ^ p) l
def segsF (f:Str):List (Nat×Nat):=match f==("I" : Str) with
 | true=>seg 20 0 12
 | false=>match f==("H" : Str) with
  | true=>seg 20 0 5
  | false=>match f==("S" : Str) with
   | true=>seg 7 0 5++seg 25 5 7
   | false=>match f==("B" : Str) with
    | true=>seg 7 11 1++seg 8 1 4++seg 25 5 6++seg 31 12 1
    | false=>match f==("U" : Str) with
     | true=>seg 12 0 20
     | false=>match f==("J" : Str) with
      | true=>seg 12 12 8++seg 20 11 1++seg 21 1 10++seg 31 20 1
      | false=>seg 20 0 8
def readK (f:Str) (w s:Int) (k:Str):Int:=match k==("rd" : Str) with
 | true=>gath w 0 (seg 7 0 5)
 | false=>match k==("rs1" : Str) with
  | true=>gath w 0 (seg 15 0 5)
  | false=>match k==("rs2" : Str) with
   | true=>gath w 0 (seg 20 0 5)
   | false=>gath w 0 (segsF f) - s
def readK0 (f:Str) (w:Int) (k:Str):Int:=match k==("rd" : Str) with
 | true=>gath w 0 (seg 7 0 5)
 | false=>match k==("rs1" : Str) with
  | true=>gath w 0 (seg 15 0 5)
  | false=>match k==("rs2" : Str) with
   | true=>gath w 0 (seg 20 0 5)
   | false=>gath w 0 (segsF f)
def readF0 (f:Str) (w:Int):R AV:=.ret (.dS (keysF f) ((keysF f).map fun k=>.sym (readK0 f w k)))
def readF1 (f:Str) (w s:Int):R AV:=.ret (.dS (keysF f) ((keysF f).map fun k=>.sym (readK f w s k)))
def readU (f:Str) (w:Int):R AV:=bitNeeds w 32 0 (readF0 f w)
def readG (f:Str) (w s:Int):R AV:=bitNeeds w 32 0 (.need (true=true) (.ite (sh w 31==1) (readF1 f w s) (readF0 f w)))
abbrev readE (f:Str) (d:AV) (w:Int):R AV:=run c23 2 41 ["form","drawing","number"] [.str f,d,.sym w]
theorem read_R (w:Int):readE "R" v_BR w=readU "R" w:=by kernel_rfl
theorem read_I (w:Int):readE "I" v_BI w=readG "I" w 4096:=by kernel_rfl
theorem read_H (w:Int):readE "H" v_BH w=readU "H" w:=by kernel_rfl
theorem read_S (w:Int):readE "S" v_BS w=readG "S" w 4096:=by kernel_rfl
theorem read_B (w:Int):readE "B" v_BB w=readG "B" w 8192:=by kernel_rfl
theorem read_U (w:Int):readE "U" v_BU w=readU "U" w:=by kernel_rfl
theorem read_J (w:Int):readE "J" v_BJ w=readG "J" w 2097152:=by kernel_rfl
theorem read_F (w:Int):readE "F" v_BF w=readU "F" w:=by kernel_rfl
theorem read_E (w:Int):readE "E" v_BE w=readU "E" w:=by kernel_rfl
end
end Mine
end
section
open PySem.SeqAt MineH
namespace Mine
section
variable {prog:Program} {w:World} {h:Heap}
theorem rk_nat (W:Nat):∀ k,rk (W:Int) k=((W >>> k:Nat):Int)
 | 0=>rfl
 | k+1=>by
  show Int.fdiv (rk W k) (2 ^ (1:Int).toNat)=_
  rw [rk_nat W k,show (1:Int).toNat=1 from rfl,fdiv_nat,Nat.shiftRight_add]
theorem bt_nat (W k:Nat):bt (W:Int) k=(((W >>> k) % 2:Nat):Int):=by
 unfold bt
 rw [rk_nat,show (1:Int)=((1:Nat):Int) from rfl,bitAnd_nat,Nat.and_one_is_mod]
theorem bt_lt (W k:Nat):(bt (W:Int) k).natAbs<2 ^ 64:=by
 rw [bt_nat,Int.natAbs_natCast]
 exact Nat.lt_trans (Nat.mod_lt _ (by decide)) (by decide)
theorem bitNeeds_holds {W:Nat} {x:R AV} {P:AV→Prop} {X:Prop} (hx:x.Holds P X):∀ n k,(bitNeeds (W:Int) n k x).Holds P X
 | 0,_=>hx
 | n+1,k=>⟨bt_lt W k,bitNeeds_holds hx n (k+1)⟩
def fld (W k n:Nat):Nat:=(W >>> k) % 2 ^ n
theorem fld_succ (W k n:Nat):fld W k (n+1)=(W >>> k) % 2+2*fld W (k+1) n:=by
 unfold fld
 rw [Nat.shiftRight_add,Nat.shiftRight_eq_div_pow (W >>> k) 1,Nat.pow_one,Nat.pow_succ',Nat.mod_mul]
theorem gath_app (w:Int):∀ (l l':List (Nat×Nat)) (a:Int),gath w a (l++l')=gath w (gath w a l) l'
 | [],_,_=>rfl
 | (_,_) :: l,l',_=>gath_app w l l' _
theorem gath_seg (W:Nat):∀ (n k p:Nat) (a:Int),gath (W:Int) a (seg k p n)=a+((fld W k n*2 ^ p:Nat):Int)
 | 0,k,p,a=>by
  have:fld W k 0=0:=by unfold fld; rw [Nat.pow_zero,Nat.mod_one]
  rw [this,Nat.zero_mul]; exact (Int.add_zero a).symm
 | n+1,k,p,a=>by
  show gath (W:Int) (a+bt W k*2 ^ p) (seg (k+1) (p+1) n)=_
  rw [gath_seg W n (k+1) (p+1),bt_nat,fld_succ,Nat.pow_succ]
  push_cast
  rw [Int.add_mul,Int.add_assoc]
  congr 1
  congr 1
  rw [Int.mul_comm 2,Int.mul_assoc,Int.mul_comm 2]
theorem im_fld (W k n:Nat):im (W:Int) (k:Int) ((2 ^ n - 1:Nat):Int)=((fld W k n:Nat):Int):=by
 rw [im_nat,Nat.and_two_pow_sub_one_eq_mod]; rfl
theorem sh_top {W:Nat} (hW:W<4294967296) (k n:Nat) (hk:k+n=32):W >>> k=fld W k n:=by
 unfold fld
 rw [Nat.mod_eq_of_lt]
 rw [Nat.shiftRight_eq_div_pow]
 apply Nat.div_lt_of_lt_mul
 rw [← Nat.pow_add,hk]; exact hW
theorem fld_lt (W k n:Nat):fld W k n<2 ^ n:=Nat.mod_lt _ (Nat.two_pow_pos n)
theorem sgV_nat {V n:Nat} (hV:V<2 ^ (n+1)):sgV (V:Int) ((n+1:Nat):Int)=if V / 2 ^ n=1 then (V:Int) - 2 ^ (n+1) else (V:Int):=by
 have e1:sgx (V:Int) ((n+1:Nat):Int)=(V:Int):=by
  unfold sgx
  rw [Int.toNat_natCast]
  have:(1*2 ^ (n+1) - 1:Int)=((2 ^ (n+1) - 1:Nat):Int):=by
   have:=Nat.two_pow_pos (n+1)
   rw [Int.natCast_sub this]; push_cast; omega
  rw [this,bitAnd_nat,Nat.and_two_pow_sub_one_eq_mod,Nat.mod_eq_of_lt hV]
 have e2:sgc (V:Int) ((n+1:Nat):Int)=decide (V / 2 ^ n=1):=by
  unfold sgc
  rw [e1]
  have:(((n+1:Nat):Int) - 1).toNat=n:=by omega
  rw [this,fdiv_nat,Nat.shiftRight_eq_div_pow]
  have:((((V / 2 ^ n:Nat):Int)==1)=true)↔(decide (V / 2 ^ n=1)=true):=by
   rw [beq_iff_eq,decide_eq_true_iff]; omega
  cases q:decide (V / 2 ^ n=1) with
  | true=>exact this.mpr q
  | false=>
   cases q2:(((V / 2 ^ n:Nat):Int)==1) with
   | true=>rw [this.mp q2] at q; cases q
   | false=>rfl
 unfold sgV
 rw [e1,e2]
 by_cases q:V / 2 ^ n=1
 ·rw [if_pos q,decide_eq_true q,Int.toNat_natCast]; simp only [Int.one_mul]
 ·rw [if_neg q,decide_eq_false q]
theorem up_nat (A k:Nat):up (A:Int) (k:Int)=((A*2 ^ k:Nat):Int):=by
 unfold up
 rw [Int.toNat_natCast]; push_cast; rfl
theorem or_add {A B k:Nat} (hB:B<2 ^ k):Builtin.bitOr ((A*2 ^ k:Nat):Int) (B:Int)=((A*2 ^ k+B:Nat):Int):=by
 rw [bitOr_nat,← Nat.shiftLeft_eq,Nat.shiftLeft_add_eq_or_of_lt hB]
theorem ivS_nat {W:Nat} (hW:W<4294967296):ivS (W:Int)=((fld W 25 7*2 ^ 5+fld W 7 5:Nat):Int):=by
 have a:=sh_nat W 25
 have b:=im_fld W 7 5
 unfold ivS
 rw [show (25:Int)=((25:Nat):Int) from rfl,a,sh_top hW 25 7 rfl,show im (W:Int) 7 31=_ from b,show (5:Int)=((5:Nat):Int) from rfl,up_nat,or_add (fld_lt W 7 5)]
end
end Mine
end
section
open PySem.SeqAt MineH
namespace Mine
section
variable {prog:Program} {w:World} {h:Heap}
theorem or_add2 {X B:Nat} (k:Nat) (hX:X % 2 ^ k=0) (hB:B<2 ^ k):Builtin.bitOr (X:Int) (B:Int)=((X+B:Nat):Int):=by
 have e:X=X / 2 ^ k*2 ^ k:=by
  have:=Nat.div_add_mod X (2 ^ k)
  rw [hX,Nat.add_zero,Nat.mul_comm] at this
  exact this.symm
 rw [e]
 exact or_add hB
theorem ivB_nat {W:Nat} (hW:W<4294967296):ivB (W:Int)=((fld W 31 1*2 ^ 12+fld W 7 1*2 ^ 11+fld W 25 6*2 ^ 5+fld W 8 4*2 ^ 1:Nat):Int):=by
 have a:=sh_nat W 31
 have b:=im_fld W 7 1
 have c:=im_fld W 25 6
 have d:=im_fld W 8 4
 have l1:=fld_lt W 7 1
 have l2:=fld_lt W 25 6
 have l3:=fld_lt W 8 4
 unfold ivB
 rw [show sh (W:Int) 31=_ from a,sh_top hW 31 1 rfl,show im (W:Int) 7 1=_ from b,show im (W:Int) 25 63=_ from c,show im (W:Int) 8 15=_ from d]
 rw [show up ((fld W 31 1:Nat):Int) 12=_ from up_nat _ 12,show up ((fld W 7 1:Nat):Int) 11=_ from up_nat _ 11,show up ((fld W 25 6:Nat):Int) 5=_ from up_nat _ 5,show up ((fld W 8 4:Nat):Int) 1=_ from up_nat _ 1]
 rw [or_add2 12 (by omega) (by omega),or_add2 11 (by omega) (by omega),or_add2 5 (by omega) (by omega)]
theorem ivJ_nat {W:Nat} (hW:W<4294967296):ivJ (W:Int)=((fld W 31 1*2 ^ 20+fld W 12 8*2 ^ 12+fld W 20 1*2 ^ 11+fld W 21 10*2 ^ 1:Nat):Int):=by
 have a:=sh_nat W 31
 have b:=im_fld W 12 8
 have c:=im_fld W 20 1
 have d:=im_fld W 21 10
 have l1:=fld_lt W 12 8
 have l2:=fld_lt W 20 1
 have l3:=fld_lt W 21 10
 unfold ivJ
 rw [show sh (W:Int) 31=_ from a,sh_top hW 31 1 rfl,show im (W:Int) 12 255=_ from b,show im (W:Int) 20 1=_ from c,show im (W:Int) 21 1023=_ from d]
 rw [show up ((fld W 31 1:Nat):Int) 20=_ from up_nat _ 20,show up ((fld W 12 8:Nat):Int) 12=_ from up_nat _ 12,show up ((fld W 20 1:Nat):Int) 11=_ from up_nat _ 11,show up ((fld W 21 10:Nat):Int) 1=_ from up_nat _ 1]
 rw [or_add2 20 (by omega) (by omega),or_add2 12 (by omega) (by omega),or_add2 11 (by omega) (by omega)]
theorem top_eq (W:Nat) (k n:Nat):(W >>> k) / 2 ^ n=W >>> (k+n):=by rw [Nat.shiftRight_add,Nat.shiftRight_eq_div_pow (W >>> k)]
theorem sgV_at {V n:Nat} {x m:Int} (hx:x=(V:Int)) (hm:m=((n+1:Nat):Int)) (hV:V<2 ^ (n+1)) {c:Prop} [Decidable c] (hc:V / 2 ^ n=1↔c):sgV x m=(V:Int) - (if c then 2 ^ (n+1) else 0):=by
 rw [hx,hm,sgV_nat hV]
 by_cases q:c
 ·rw [if_pos (hc.mpr q),if_pos q]
 ·rw [if_neg (fun z=>q (hc.mp z)),if_neg q,Int.sub_zero]
theorem seg_gath (W k p n:Nat):gath (W:Int) 0 (seg k p n)=((fld W k n*2 ^ p:Nat):Int):=by rw [gath_seg,Int.zero_add]
theorem imm_I {W:Nat} (hW:W<4294967296):immV "I" (W:Int)=gath (W:Int) 0 (segsF "I") - (if W >>> 31=1 then 4096 else 0):=by
 have t:=sh_top hW 20 12 rfl
 have l:=fld_lt W 20 12
 have e:=top_eq W 20 11
 show sgV (sh (W:Int) 20) 12=gath (W:Int) 0 (seg 20 0 12) - _
 rw [seg_gath,Nat.pow_zero,Nat.mul_one]
 refine sgV_at (n:=11) ?_ rfl l ?_
 ·rw [show sh (W:Int) 20=_ from sh_nat W 20,t]
 ·rw [← t,e]
theorem imm_S {W:Nat} (hW:W<4294967296):immV "S" (W:Int)=gath (W:Int) 0 (segsF "S") - (if W >>> 31=1 then 4096 else 0):=by
 have t:=sh_top hW 25 7 rfl
 have l:=fld_lt W 25 7
 have l2:=fld_lt W 7 5
 have e:=top_eq W 25 6
 show sgV (ivS (W:Int)) 12=gath (W:Int) 0 (seg 7 0 5++seg 25 5 7) - _
 rw [gath_app,seg_gath,gath_seg,← Int.natCast_add,show fld W 7 5*2 ^ 0+fld W 25 7*2 ^ 5=fld W 25 7*2 ^ 5+fld W 7 5 by omega]
 refine sgV_at (n:=11) (ivS_nat hW) rfl (by omega) ?_
 rw [← e,t]; omega
theorem imm_B {W:Nat} (hW:W<4294967296):immV "B" (W:Int)=gath (W:Int) 0 (segsF "B") - (if W >>> 31=1 then 8192 else 0):=by
 have t:=sh_top hW 31 1 rfl
 have l:=fld_lt W 31 1
 have l1:=fld_lt W 7 1
 have l2:=fld_lt W 25 6
 have l3:=fld_lt W 8 4
 show sgV (ivB (W:Int)) 13=gath (W:Int) 0 (((seg 7 11 1++seg 8 1 4)++seg 25 5 6)++seg 31 12 1) - _
 rw [gath_app,gath_app,gath_app,seg_gath,gath_seg,gath_seg,gath_seg,← Int.natCast_add,← Int.natCast_add,← Int.natCast_add,show fld W 7 1*2 ^ 11+fld W 8 4*2 ^ 1+fld W 25 6*2 ^ 5+fld W 31 1*2 ^ 12=fld W 31 1*2 ^ 12+fld W 7 1*2 ^ 11+fld W 25 6*2 ^ 5+fld W 8 4*2 ^ 1 by omega]
 refine sgV_at (n:=12) (ivB_nat hW) rfl (by omega) ?_
 rw [t]; omega
theorem imm_J {W:Nat} (hW:W<4294967296):immV "J" (W:Int)=gath (W:Int) 0 (segsF "J") - (if W >>> 31=1 then 2097152 else 0):=by
 have t:=sh_top hW 31 1 rfl
 have l:=fld_lt W 31 1
 have l1:=fld_lt W 12 8
 have l2:=fld_lt W 20 1
 have l3:=fld_lt W 21 10
 show sgV (ivJ (W:Int)) 21=gath (W:Int) 0 (((seg 12 12 8++seg 20 11 1)++seg 21 1 10)++seg 31 20 1) - _
 rw [gath_app,gath_app,gath_app,seg_gath,gath_seg,gath_seg,gath_seg,← Int.natCast_add,← Int.natCast_add,← Int.natCast_add,show fld W 12 8*2 ^ 12+fld W 20 1*2 ^ 11+fld W 21 10*2 ^ 1+fld W 31 1*2 ^ 20=fld W 31 1*2 ^ 20+fld W 12 8*2 ^ 12+fld W 20 1*2 ^ 11+fld W 21 10*2 ^ 1 by omega]
 refine sgV_at (n:=20) (ivJ_nat hW) rfl (by omega) ?_
 rw [t]; omega
theorem imm_H (W:Nat):immV "H" (W:Int)=gath (W:Int) 0 (segsF "H"):=by
 show im (W:Int) 20 31=gath (W:Int) 0 (seg 20 0 5)
 rw [seg_gath,Nat.pow_zero,Nat.mul_one]; exact im_fld W 20 5
theorem imm_F (W:Nat):immV "F" (W:Int)=gath (W:Int) 0 (segsF "F"):=by
 show im (W:Int) 20 255=gath (W:Int) 0 (seg 20 0 8)
 rw [seg_gath,Nat.pow_zero,Nat.mul_one]; exact im_fld W 20 8
theorem imm_U {W:Nat} (hW:W<4294967296):immV "U" (W:Int)=gath (W:Int) 0 (segsF "U"):=by
 show sh (W:Int) 12=gath (W:Int) 0 (seg 12 0 20)
 rw [seg_gath,Nat.pow_zero,Nat.mul_one,show sh (W:Int) 12=_ from sh_nat W 12,sh_top hW 12 20 rfl]
end
end Mine
end
section
open PySem.SeqAt MineH
namespace Mine
section
variable {prog:Program} {w:World} {h:Heap}
def fieldsV (f:Str) (w:Int):AV:=.dS (keysF f) ((keysF f).map fun k=>.sym (fieldV f w k))
def readS:List AV→R AV:=fun args=>match args with
 | [.str f,d,.sym w]=>(match lookS formsL drawL f with
  | some v=>.need (d=v) (.need (0≤w∧w<4294967296) (.ret (fieldsV f w)))
  | none=>.fail)
 | _=>.fail
theorem readS_noexc (l:List AV):NoExc (readS l):=by
 unfold readS
 repeat' split
 all_goals trivial
theorem reg_gath (W k:Nat):gath (W:Int) 0 (seg k 0 5)=im (W:Int) (k:Int) 31:=by
 rw [seg_gath,Nat.pow_zero,Nat.mul_one]; exact (im_fld W k 5).symm
theorem readK0_eq {f:Str} {W:Nat} (hi:immV f (W:Int)=gath (W:Int) 0 (segsF f)) (k:Str):readK0 f (W:Int) k=fieldV f (W:Int) k:=by
 unfold readK0 fieldV
 rw [show gath (W:Int) 0 (seg 7 0 5)=im (W:Int) 7 31 from reg_gath W 7,show gath (W:Int) 0 (seg 15 0 5)=im (W:Int) 15 31 from reg_gath W 15,show gath (W:Int) 0 (seg 20 0 5)=im (W:Int) 20 31 from reg_gath W 20,hi]
 cases k==("rd" : Str) with
 | true=>rfl
 | false=>cases k==("rs1" : Str) with
  | true=>rfl
  | false=>cases k==("rs2" : Str) with
   | true=>rfl
   | false=>rfl
theorem readK_eq {f:Str} {W:Nat} {s:Int} (hi:immV f (W:Int)=gath (W:Int) 0 (segsF f) - s) (k:Str):readK f (W:Int) s k=fieldV f (W:Int) k:=by
 unfold readK fieldV
 rw [show gath (W:Int) 0 (seg 7 0 5)=im (W:Int) 7 31 from reg_gath W 7,show gath (W:Int) 0 (seg 15 0 5)=im (W:Int) 15 31 from reg_gath W 15,show gath (W:Int) 0 (seg 20 0 5)=im (W:Int) 20 31 from reg_gath W 20,hi]
 cases k==("rd" : Str) with
 | true=>rfl
 | false=>cases k==("rs1" : Str) with
  | true=>rfl
  | false=>cases k==("rs2" : Str) with
   | true=>rfl
   | false=>rfl
theorem F0_eq {f:Str} {W:Nat} (hi:immV f (W:Int)=gath (W:Int) 0 (segsF f)):readF0 f (W:Int)=.ret (fieldsV f (W:Int)):=by
 unfold readF0 fieldsV
 rw [funext fun k=>congrArg AV.sym (readK0_eq hi k)]
theorem F1_eq {f:Str} {W:Nat} {s:Int} (hi:immV f (W:Int)=gath (W:Int) 0 (segsF f) - s):readF1 f (W:Int) s=.ret (fieldsV f (W:Int)):=by
 unfold readF1 fieldsV
 rw [funext fun k=>congrArg AV.sym (readK_eq hi k)]
def ReadOk (f:Str) (d:AV):Prop:=∀ W:Nat,W<4294967296→HX (readE f d (W:Int)) (fun av=>av=fieldsV f (W:Int)) False
theorem okU {f:Str} {d:AV} (e:∀ w:Int,readE f d w=readU f w) (hi:∀ W:Nat,W<4294967296→immV f (W:Int)=gath (W:Int) 0 (segsF f)):ReadOk f d:=fun W hW=>by
 rw [e]
 unfold readU
 rw [F0_eq (hi W hW)]
 exact ⟨bitNeeds_holds (P:=fun av=>av=fieldsV f (W:Int)) (X:=False) (x:=.ret (fieldsV f (W:Int))) (show fieldsV f (W:Int)=fieldsV f (W:Int) from rfl) 32 0⟩
theorem readG_hx {f:Str} {W:Nat} {s:Int} (hi:immV f (W:Int)=gath (W:Int) 0 (segsF f) - (if W >>> 31=1 then s else 0)):HX (R.need (true=true) (.ite (sh (W:Int) 31==1) (readF1 f (W:Int) s) (readF0 f (W:Int)))) (fun av=>av=fieldsV f (W:Int)) False:=by
 have q:(sh (W:Int) 31==1)=true↔W >>> 31=1:=by
  rw [show sh (W:Int) 31=_ from sh_nat W 31,beq_iff_eq]; omega
 refine ⟨rfl,fun c=>?_,fun c=>?_⟩
 ·rw [if_pos (q.mp c)] at hi
  rw [F1_eq hi]; exact rfl
 ·rw [if_neg (fun z=>by rw [q.mpr z] at c; cases c),Int.sub_zero] at hi
  rw [F0_eq hi]; exact rfl
theorem okG {f:Str} {d:AV} {s:Int} (e:∀ w:Int,readE f d w=readG f w s) (hi:∀ W:Nat,W<4294967296→immV f (W:Int)=gath (W:Int) 0 (segsF f) - (if W >>> 31=1 then s else 0)):ReadOk f d:=fun W hW=>by
 rw [e]
 exact ⟨bitNeeds_holds (readG_hx (hi W hW)).out 32 0⟩
theorem okR:ReadOk "R" v_BR:=fun W hW=>by
 rw [read_R]
 refine ⟨bitNeeds_holds (P:=fun av=>av=fieldsV "R" (W:Int)) (X:=False) (x:=readF0 "R" (W:Int)) ?_ 32 0⟩
 show AV.dS ["rd","rs1","rs2"] [.sym (gath (W:Int) 0 (seg 7 0 5)),.sym (gath (W:Int) 0 (seg 15 0 5)),.sym (gath (W:Int) 0 (seg 20 0 5))]=.dS ["rd","rs1","rs2"] [.sym (im (W:Int) 7 31),.sym (im (W:Int) 15 31),.sym (im (W:Int) 20 31)]
 rw [show gath (W:Int) 0 (seg 7 0 5)=im (W:Int) 7 31 from reg_gath W 7,show gath (W:Int) 0 (seg 15 0 5)=im (W:Int) 15 31 from reg_gath W 15,show gath (W:Int) 0 (seg 20 0 5)=im (W:Int) 20 31 from reg_gath W 20]
theorem okE:ReadOk "E" v_BE:=fun W hW=>by
 rw [read_E]
 exact ⟨bitNeeds_holds (P:=fun av=>av=fieldsV "E" (W:Int)) (X:=False) (x:=readF0 "E" (W:Int)) (show AV.dS [] []=AV.dS [] [] from rfl) 32 0⟩
def AllQ (Q:Str→AV→Prop):List Str→List AV→Prop
 | f :: fs,v :: vs=>Q f v∧AllQ Q fs vs
 | _,_=>True
theorem all_lookS {Q:Str→AV→Prop}:∀ {fs:List Str} {vs:List AV} {f:Str} {v:AV},AllQ Q fs vs→lookS fs vs f=some v→Q f v
 | [],_,_,_,_,e=>(nomatch e)
 | _ :: _,[],_,_,_,e=>(nomatch e)
 | k :: ks,u :: us,f,v,⟨h1,h2⟩,e=>by
  unfold lookS at e
  split at e
  ·rename_i q
   cases e
   rw [← eq_of_beq q]; exact h1
  ·exact all_lookS h2 e
theorem allRead:AllQ ReadOk formsL drawL:=
 ⟨okR,okG read_I fun _ h=>imm_I h,okU read_H fun W _=>imm_H W,okG read_S fun _ h=>imm_S h,okG read_B fun _ h=>imm_B h,okU read_U fun _ h=>imm_U h,okG read_J fun _ h=>imm_J h,okU read_F fun W _=>imm_F W,okE,trivial⟩
theorem need2_inv {p q:Prop} {v:AV} {P:AV→Prop} {X:Prop} (h:(R.need p (R.need q (R.ret v))).Holds P X):p∧q∧P v:=h
theorem read_hx (args:List AV) (P:AV→Prop) (hh:HX (readS args) P False):HX (run c23 2 41 ["form","drawing","number"] args) (fun av=>∃ av',P av'∧Sub prog w av av') False:=by
 unfold readS at hh
 split at hh
 ·rename_i f d x
  split at hh
  ·rename_i v e
   obtain ⟨hd,⟨h0,h1⟩,hp⟩:=need2_inv hh.out
   obtain ⟨W,hW⟩:=Int.eq_ofNat_of_zero_le h0
   have r:=all_lookS allRead e W (by omega)
   rw [hd,hW]
   exact ⟨R.holds_mono (fun av (q:av=_)=>⟨fieldsV f (W:Int),by rw [← hW]; exact hp,by rw [q]; exact sub_refl _⟩) id r.out⟩
  ·exact hh.out.elim
 ·exact hh.out.elim
theorem read_holds (args:List AV) (P:AV→Prop) (hh:(readS args).Holds P False):(run c23 2 41 ["form","drawing","number"] args).Holds (fun av=>∃ av',P av'∧Sub prog w av av') False:=(read_hx args P ⟨hh⟩).out
def c24:Ctx:=c23.add "_law_read" 2 readS
theorem gok24 (X:(Kx w.params).In h) (lim:h.NoLimit):GOK prog w c24 h:=gok_add (gok23 X lim) (gm_of X (by kernel_rfl)) ⟨o619 w.params,_,X 619 _ (by kernel_rfl),rfl⟩ (run_ok' (d41 X lim) (gok23 X lim) rfl read_holds) readS_noexc
end
end Mine
end
section
open PySem.SeqAt MineH
namespace Mine
section
variable {prog:Program} {w:World} {h:Heap}
theorem noX_of {α:Type} {P:α→Prop}:∀ {x:R α},x.Holds P False→(noX x).Holds P False
 | .ret _,h=>h
 | .ite _ _ _,⟨h1,h2⟩=>⟨fun e=>noX_of (h1 e),fun e=>noX_of (h2 e)⟩
 | .need _ _,⟨h1,h2⟩=>⟨h1,noX_of h2⟩
 | .exc,h=>h.elim
 | .fail,h=>h.elim
theorem hx_mono {α:Type} {x:R α} {P P':α→Prop} {X:Prop} (h:HX x P X) (hp:∀ a,P a→P' a):HX x P' X:=⟨R.holds_mono hp id h.out⟩
theorem hx_bind {α β:Type} {P:β→Prop} {X:Prop} {f:α→R β} {x:R α} (h:HX x (fun a=>HX (f a) P X) X):HX (x.bind f) P X:=⟨R.holds_bind' (R.holds_mono (fun _ q=>q.out) id h.out)⟩
theorem hx_ret {α:Type} {a:α} {P:α→Prop} {X:Prop} (h:P a):HX (.ret a) P X:=⟨h⟩
theorem hx_need {α:Type} {p:Prop} {x:R α} {P:α→Prop} {X:Prop} (h1:p) (h2:HX x P X):HX (.need p x) P X:=⟨⟨h1,h2.out⟩⟩
theorem hx_ite {α:Type} {b:Bool} {x y:R α} {P:α→Prop} {X:Prop} (h1:b=true→HX x P X) (h2:b=false→HX y P X):HX (.ite b x y) P X:=⟨⟨fun e=>(h1 e).out,fun e=>(h2 e).out⟩⟩
theorem hx_eq {α:Type} {x y:R α} {P:α→Prop} {X:Prop} (e:x=y) (h:HX y P X):HX x P X:=⟨e ▸ h.out⟩
theorem noX_hx {α:Type} {x:R α} {P:α→Prop} (h:HX x P False):HX (noX x) P False:=⟨noX_of h.out⟩
def endF (p:Fl×AEnv×SL):R AV:=match p with
 | (.ret v,_,sl)=>(frzE sl v).bind fun q=>.ret q.2
 | (.nxt,_,_)=>.ret .none
theorem run_of {C:Ctx} {d i:Nat} {xs:List Str} {args:List AV} {P:AV→Prop} (hz:Nat.beq args.length xs.length=true)
  (h:HX (evalS C d (scopeAt i) 60 (xs.zip args) (bodyAt i) []) (fun p=>HX (endF p) P False) False) :
  HX (run C d i xs args) P False:=by
 refine noX_hx ?_
 unfold specF
 rw [hz]
 exact hx_bind h
def nextS (C:Ctx) (d n:Nat) (sc:Scope) (r:List Stmt) (p:Fl×AEnv×SL):RS:=match p with
 | (.nxt,env,sl)=>evalS C d sc n env r sl
 | (.ret v,env,sl)=>.ret (.ret v,env,sl)
theorem cons_of {C:Ctx} {d n:Nat} {sc:Scope} {env:AEnv} {s:Stmt} {r:List Stmt} {sl:SL} {P:Fl×AEnv×SL→Prop} {X:Prop}
  (h:HX (stepS C d n sc (evalS C d sc n) env s sl) (fun p=>HX (nextS C d n sc r p) P X) X):HX (evalS C d sc (n+1) env (s :: r) sl) P X:=
 hx_bind h
theorem for_of {C:Ctx} {d n:Nat} {sc:Scope} {es:Es} {env:AEnv} {t iter:Expr} {body:List Stmt} {p:Pos} {sl:SL} {v:AV} {items:List AV} {P:Fl×AEnv×SL→Prop} {X:Prop}
  (h1:notSet iter=true) (h2:evalE C d n sc env iter sl=.ret (none,v)) (h3:pureA v=true) (h4:iterA v=some items)
  (h:HX (loopS sc (fun env sl=>es env body sl) t items env sl) P X):HX (stepS C d n sc es env (.For t iter body [] p) sl) P X:=by
 show HX (guardB (notSet iter) ((evalE C d n sc env iter sl).bind _)) P X
 rw [h1,h2]
 show HX ((frzE sl v).bind _) P X
 unfold frzE
 rw [h3]
 show HX (match iterA v with | some items=>loopS sc (fun env sl=>es env body sl) t items env sl | none=>.fail) P X
 rw [h4]
 exact h
def afterT (sc:Scope) (body:AEnv→SL→RS) (t:Expr) (l:List AV) (p:Fl×AEnv×SL):RS:=match p with
 | (.nxt,env₁,sl₁)=>loopS sc body t l env₁ sl₁
 | (.ret v,env₁,sl₁)=>.ret (.ret v,env₁,sl₁)
theorem turn_of {sc:Scope} {body:AEnv→SL→RS} {t:Expr} {x:AV} {l:List AV} {env env':AEnv} {sl:SL} {P:Fl×AEnv×SL→Prop} {X:Prop} (e:bindP sc t x env=some env') (h:HX (body env' sl) (fun p=>HX (afterT sc body t l p) P X) X) :
  HX (loopS sc body t (x :: l) env sl) P X:=by
 show HX (match bindP sc t x env with | none=>.fail | some env'=>(body env' sl).bind (afterT sc body t l)) P X
 rw [e]
 exact hx_bind h
theorem loop_of {sc:Scope} {body:AEnv→SL→RS} {t:Expr} {I:AEnv→SL→Prop} {P:Fl×AEnv×SL→Prop} {X:Prop}:∀ {items:List AV} {env:AEnv} {sl:SL},
  (∀ x∈items,∀ env sl,I env sl→∃ env',bindP sc t x env=some env'∧HX (body env' sl) (fun p=>match p with | (.nxt,env,sl)=>I env sl | (.ret v,env,sl)=>P (.ret v,env,sl)) X)→(∀ env sl,I env sl→P (.nxt,env,sl)) →
  I env sl→HX (loopS sc body t items env sl) P X
 | [],env,sl,_,h2,hi=>⟨h2 env sl hi⟩
 | x :: l,env,sl,h1,h2,hi=>by
  obtain ⟨env',e,hb⟩:=h1 x (by simp) env sl hi
  refine turn_of e (hx_mono hb fun p hp=>?_)
  match p,hp with
  | (.nxt,env,sl),hp=>exact loop_of (fun x hx=>h1 x (by simp [hx])) h2 hp
  | (.ret v,env,sl),hp=>exact ⟨hp⟩
theorem end_of {C:Ctx} {d n:Nat} {sc:Scope} {env:AEnv} {r:Stmt} {v:AV} {P:AV→Prop} (h:evalS C d sc n env [r] []=.ret (.ret v,env,[])) (hv:pureA v=true) (hp:P v) :
  HX (evalS C d sc n env [r] []) (fun p=>HX (endF p) P False) False:=by
 rw [h]
 refine hx_ret ?_
 show HX ((frzE [] v).bind _) P False
 unfold frzE
 rw [hv]
 exact ⟨hp⟩
end
end Mine
end
section
open PySem.SeqAt MineH
namespace Mine
section
variable {prog:Program} {w:World} {h:Heap}
def okB0:R AV→Prop
 | .ret v=>(boolOf v).isSome=true
 | .ite c x y=>(c=true→okB0 x)∧(c=false→okB0 y)
 | .need p x=>p∧okB0 x
 | .exc=>False
 | .fail=>False
def valB:R AV→Bool
 | .ret v=>(match boolOf v with | some (b,_)=>b | none=>false)
 | .ite c x y=>(match c with | true=>valB x | false=>valB y)
 | .need _ x=>valB x
 | .exc=>false
 | .fail=>false
def okI0:R AV→Prop
 | .ret v=>(intOf v).isSome=true
 | .ite c x y=>(c=true→okI0 x)∧(c=false→okI0 y)
 | .need p x=>p∧okI0 x
 | .exc=>False
 | .fail=>False
def valI:R AV→Int
 | .ret v=>(match intOf v with | some (i,_)=>i | none=>0)
 | .ite c x y=>(match c with | true=>valI x | false=>valI y)
 | .need _ x=>valI x
 | .exc=>0
 | .fail=>0
structure okB (x:R AV):Prop where
 out:okB0 x
structure okI (x:R AV):Prop where
 out:okI0 x
def joinB (sp:List AV→R AV):List AV→R AV:=fun args=>.need (okB (sp args)) (.ret (.sb (valB (sp args))))
def joinI (sp:List AV→R AV):List AV→R AV:=fun args=>.need (okI (sp args)) (.ret (.sym (valI (sp args))))
theorem joinB_noexc {sp:List AV→R AV} (l:List AV):NoExc (joinB sp l):=trivial
theorem joinI_noexc {sp:List AV→R AV} (l:List AV):NoExc (joinI sp l):=trivial
theorem sb_of {V:Vis} {x:AV} {b c:Bool} {v:Value} (e:boolOf x=some (b,c)) (h:Has prog w V [] x v):Has prog w V [] (.sb b) v:=by
 cases x<;>simp only [boolOf,reduceCtorEq,Option.some.injEq,Prod.mk.injEq] at e
 ·rw [← e.1]; exact h
 ·rw [← e.1]; exact h
theorem okB_holds:∀ {x:R AV},okB0 x→x.Holds (fun av=>Sub prog w av (.sb (valB x))) False
 | .ret v,h=>fun V u hv=>by
  have h:(boolOf v).isSome=true:=h
  cases e:boolOf v with
  | none=>rw [e] at h; cases h
  | some p=>
   have:valB (.ret v)=p.1:=by show (match boolOf v with | some (b,_)=>b | none=>false)=_; rw [e]
   rw [this]
   exact sb_of e hv
 | .ite c x y,⟨h1,h2⟩=>by
  refine ⟨fun e=>?_,fun e=>?_⟩
  ·subst e; exact okB_holds (h1 rfl)
  ·subst e; exact okB_holds (h2 rfl)
 | .need p x,⟨h1,h2⟩=>⟨h1,okB_holds h2⟩
 | .exc,h=>h
 | .fail,h=>h
theorem okI_holds:∀ {x:R AV},okI0 x→x.Holds (fun av=>Sub prog w av (.sym (valI x))) False
 | .ret v,h=>fun V u hv=>by
  have h:(intOf v).isSome=true:=h
  cases e:intOf v with
  | none=>rw [e] at h; cases h
  | some p=>
   have:valI (.ret v)=p.1:=by show (match intOf v with | some (b,_)=>b | none=>0)=_; rw [e]
   rw [this]
   exact sym_of e hv
 | .ite c x y,⟨h1,h2⟩=>by
  refine ⟨fun e=>?_,fun e=>?_⟩
  ·subst e; exact okI_holds (h1 rfl)
  ·subst e; exact okI_holds (h2 rfl)
 | .need p x,⟨h1,h2⟩=>⟨h1,okI_holds h2⟩
 | .exc,h=>h
 | .fail,h=>h
theorem joinB_holds {sp:List AV→R AV} (args:List AV) (P:AV→Prop) (h:(joinB sp args).Holds P False):(sp args).Holds (fun av=>∃ av',P av'∧Sub prog w av av') False:=
 R.holds_mono (fun av hs=>⟨_,h.2,hs⟩) id (okB_holds h.1.out)
theorem joinI_holds {sp:List AV→R AV} (args:List AV) (P:AV→Prop) (h:(joinI sp args).Holds P False):(sp args).Holds (fun av=>∃ av',P av'∧Sub prog w av av') False:=
 R.holds_mono (fun av hs=>⟨_,h.2,hs⟩) id (okI_holds h.1.out)
theorem okB0_of {b:Bool}:∀ {x:R AV},x.Holds (fun av=>∃ s,boolOf av=some (b,s)) False→okB0 x∧valB x=b
 | .ret v,⟨s,e⟩=>by
  refine ⟨?_,?_⟩
  ·show (boolOf v).isSome=true; rw [e]; rfl
  ·show (match boolOf v with | some (b,_)=>b | none=>false)=_; rw [e]
 | .ite c x y,⟨h1,h2⟩=>by
  cases c with
  | true=>have:=okB0_of (h1 rfl); exact ⟨⟨fun _=>this.1,fun e=>(nomatch e)⟩,this.2⟩
  | false=>have:=okB0_of (h2 rfl); exact ⟨⟨fun e=>(nomatch e),fun _=>this.1⟩,this.2⟩
 | .need p x,⟨h1,h2⟩=>have:=okB0_of h2; ⟨⟨h1,this.1⟩,this.2⟩
 | .exc,h=>h.elim
 | .fail,h=>h.elim
theorem okI0_of {i:Int}:∀ {x:R AV},x.Holds (fun av=>∃ s,intOf av=some (i,s)) False→okI0 x∧valI x=i
 | .ret v,⟨s,e⟩=>by
  refine ⟨?_,?_⟩
  ·show (intOf v).isSome=true; rw [e]; rfl
  ·show (match intOf v with | some (b,_)=>b | none=>0)=_; rw [e]
 | .ite c x y,⟨h1,h2⟩=>by
  cases c with
  | true=>have:=okI0_of (h1 rfl); exact ⟨⟨fun _=>this.1,fun e=>(nomatch e)⟩,this.2⟩
  | false=>have:=okI0_of (h2 rfl); exact ⟨⟨fun e=>(nomatch e),fun _=>this.1⟩,this.2⟩
 | .need p x,⟨h1,h2⟩=>have:=okI0_of h2; ⟨⟨h1,this.1⟩,this.2⟩
 | .exc,h=>h.elim
 | .fail,h=>h.elim
theorem okB_of {b:Bool} {x:R AV} (h:x.Holds (fun av=>∃ s,boolOf av=some (b,s)) False):okB x∧valB x=b:=⟨⟨(okB0_of h).1⟩,(okB0_of h).2⟩
theorem okI_of {i:Int} {x:R AV} (h:x.Holds (fun av=>∃ s,intOf av=some (i,s)) False):okI x∧valI x=i:=⟨⟨(okI0_of h).1⟩,(okI0_of h).2⟩
end
end Mine
end
section
open PySem.SeqAt MineH
namespace Mine
def pk:List (Nat×Nat)→Nat
 | []=>0
 | (n,v) :: l=>v+2 ^ n*pk l
def Fit:List (Nat×Nat)→Prop
 | []=>True
 | (n,v) :: l=>v<2 ^ n∧Fit l
def SameW:List (Nat×Nat)→List (Nat×Nat)→Prop
 | [],[]=>True
 | (n,_) :: l,(m,_) :: k=>n=m∧SameW l k
 | _,_=>False
def zor:List (Nat×Nat)→List (Nat×Nat)→List (Nat×Nat)
 | (n,v) :: l,(_,u) :: m=>(n,v ||| u) :: zor l m
 | _,_=>[]
def zand:List (Nat×Nat)→List (Nat×Nat)→List (Nat×Nat)
 | (n,v) :: l,(_,u) :: m=>(n,v &&& u) :: zand l m
 | _,_=>[]
theorem low_mod {k a:Nat} (A:Nat) (ha:a<2 ^ k):(a+2 ^ k*A) % 2 ^ k=a:=by rw [Nat.add_mul_mod_self_left,Nat.mod_eq_of_lt ha]
theorem top_div {k a:Nat} (A:Nat) (ha:a<2 ^ k):(a+2 ^ k*A) / 2 ^ k=A:=by rw [Nat.add_mul_div_left _ _ (Nat.two_pow_pos k),Nat.div_eq_of_lt ha,Nat.zero_add]
theorem or2 {k a b:Nat} (A B:Nat) (ha:a<2 ^ k) (hb:b<2 ^ k):(a+2 ^ k*A) ||| (b+2 ^ k*B)=(a ||| b)+2 ^ k*(A ||| B):=by
 have h1:((a+2 ^ k*A) ||| (b+2 ^ k*B)) % 2 ^ k=a ||| b:=by rw [Nat.or_mod_two_pow,low_mod A ha,low_mod B hb]
 have h2:((a+2 ^ k*A) ||| (b+2 ^ k*B)) / 2 ^ k=A ||| B:=by rw [Nat.or_div_two_pow,top_div A ha,top_div B hb]
 rw [← h1,← h2,Nat.mod_add_div]
theorem and2 {k a b:Nat} (A B:Nat) (ha:a<2 ^ k) (hb:b<2 ^ k):(a+2 ^ k*A) &&& (b+2 ^ k*B)=(a &&& b)+2 ^ k*(A &&& B):=by
 have h1:((a+2 ^ k*A) &&& (b+2 ^ k*B)) % 2 ^ k=a &&& b:=by rw [Nat.and_mod_two_pow,low_mod A ha,low_mod B hb]
 have h2:((a+2 ^ k*A) &&& (b+2 ^ k*B)) / 2 ^ k=A &&& B:=by rw [Nat.and_div_two_pow,top_div A ha,top_div B hb]
 rw [← h1,← h2,Nat.mod_add_div]
theorem pk_or:∀ {l m:List (Nat×Nat)},SameW l m→Fit l→Fit m→pk l ||| pk m=pk (zor l m)
 | [],[],_,_,_=>by simp [pk,zor]
 | (n,v) :: l,(_,u) :: m,⟨rfl,h⟩,⟨h1,h2⟩,⟨h3,h4⟩=>by
  show (v+2 ^ n*pk l) ||| (u+2 ^ n*pk m)=(v ||| u)+2 ^ n*pk (zor l m)
  rw [or2 _ _ h1 h3,pk_or h h2 h4]
theorem pk_and:∀ {l m:List (Nat×Nat)},SameW l m→Fit l→Fit m→pk l &&& pk m=pk (zand l m)
 | [],[],_,_,_=>by simp [pk,zand]
 | (n,v) :: l,(_,u) :: m,⟨rfl,h⟩,⟨h1,h2⟩,⟨h3,h4⟩=>by
  show (v+2 ^ n*pk l) &&& (u+2 ^ n*pk m)=(v &&& u)+2 ^ n*pk (zand l m)
  rw [and2 _ _ h1 h3,pk_and h h2 h4]
theorem fdiv_pow (x:Int) (k:Nat):x.fdiv (2 ^ k)=x / 2 ^ k:=Int.fdiv_eq_ediv_of_nonneg _ (Int.le_of_lt (Int.pow_pos (by decide)))
theorem and_mask (x:Int) (n:Nat):Builtin.bitAnd x ((2 ^ n - 1:Nat):Int)=x % 2 ^ n:=by
 have hp:=Nat.two_pow_pos n
 by_cases h:0≤x
 ·obtain ⟨X,rfl⟩:=Int.eq_ofNat_of_zero_le h
  rw [bitAnd_nat,Nat.and_two_pow_sub_one_eq_mod]; push_cast; rfl
 ·unfold Builtin.bitAnd
  rw [decide_eq_false h,decide_eq_true (Int.natCast_nonneg _)]
  dsimp only
  rw [bitNot_eq,Int.toNat_natCast,Nat.and_comm,Nat.and_two_pow_sub_one_eq_mod]
  obtain ⟨z,hz⟩:∃ z:Nat,x = -(z:Int) - 1:=⟨(-x - 1).toNat,by omega⟩
  subst hz
  have e:(-(-(z:Int) - 1) - 1).toNat=z:=by omega
  rw [e]
  have q:=Nat.div_add_mod z (2 ^ n)
  have l:=Nat.mod_lt z hp
  have:(-(z:Int) - 1) % 2 ^ n=((2 ^ n - 1 - z % 2 ^ n:Nat):Int):=by
   have e1:(-(z:Int) - 1)=((2 ^ n - 1 - z % 2 ^ n:Nat):Int)+(2 ^ n:Int)*(-((z / 2 ^ n:Nat):Int) - 1):=by
    have c:((2 ^ n:Nat):Int)=(2 ^ n:Int):=by push_cast; rfl
    rw [← c]
    generalize hM:(2 ^ n:Nat)=M at *
    generalize hQ:z / M=Q at *
    generalize hR:z % M=Rr at *
    have c2:((M - 1 - Rr:Nat):Int)=(M:Int) - 1 - Rr:=by omega
    rw [c2,Int.mul_sub,Int.mul_neg]
    have:(z:Int)=(M:Int)*Q+Rr:=by exact_mod_cast q.symm
    rw [this]; omega
   rw [e1,Int.add_mul_emod_self_left]
   refine Int.emod_eq_of_lt (Int.natCast_nonneg _) ?_
   have c:((2 ^ n:Nat):Int)=(2 ^ n:Int):=by push_cast; rfl
   rw [← c]; omega
  rw [this]; omega
theorem mod_two (x:Int) (n:Nat):x % 2 ^ (n+1)=x / 2 ^ n % 2*2 ^ n+x % 2 ^ n:=by
 have hp:(0:Int)<2 ^ n:=Int.pow_pos (by decide)
 have e1:=Int.mul_ediv_add_emod x (2 ^ n)
 have e2:=Int.mul_ediv_add_emod (x / 2 ^ n) 2
 have l1:=Int.emod_nonneg x (Int.ne_of_gt hp)
 have l2:=Int.emod_lt_of_pos x hp
 have l3:=Int.emod_nonneg (x / 2 ^ n) (show (2:Int)≠0 by decide)
 have l4:=Int.emod_lt_of_pos (x / 2 ^ n) (show (0:Int)<2 by decide)
 have:x=(x / 2 ^ n % 2*2 ^ n+x % 2 ^ n)+2 ^ (n+1)*(x / 2 ^ n / 2):=by
  rw [Int.pow_succ]
  generalize hM:(2 ^ n:Int)=M at *
  generalize x / M=q at *
  generalize x % M=r at *
  generalize q / 2=q2 at *
  generalize q % 2=r2 at *
  rw [← e1,← e2,Int.mul_add,Int.mul_comm M r2,← Int.mul_assoc M 2 q2]; omega
 generalize hY:x / 2 ^ n % 2*2 ^ n+x % 2 ^ n=Y at *
 generalize x / 2 ^ n / 2=Z at *
 rw [this,Int.add_mul_emod_self_left]
 refine Int.emod_eq_of_lt ?_ ?_
 ·have:0≤x / 2 ^ n % 2*2 ^ n:=Int.mul_nonneg l3 (Int.le_of_lt hp)
  omega
 ·rw [Int.pow_succ]
  have:x / 2 ^ n % 2*2 ^ n≤1*2 ^ n:=Int.mul_le_mul_of_nonneg_right (by omega) (Int.le_of_lt hp)
  omega
def bitV (v:Int) (p:Nat):Int:=Builtin.bitAnd (v.fdiv (2 ^ p)) 1
theorem bitV_eq (v:Int) (p:Nat):bitV v p=v / 2 ^ p % 2:=by
 unfold bitV
 rw [fdiv_pow]; exact and_mask _ 1
def lay:Int→List (Int×Nat)→Int
 | a,[]=>a
 | a,(v,p) :: l=>lay (a*2+bitV v p) l
def down (v:Int) (p:Nat):Nat→List (Int×Nat)
 | 0=>[]
 | n+1=>(v,p+n) :: down v p n
theorem lay_app:∀ (l m:List (Int×Nat)) (a:Int),lay a (l++m)=lay (lay a l) m
 | [],_,_=>rfl
 | (_,_) :: l,m,_=>lay_app l m _
theorem lay_down (v:Int) (p:Nat):∀ (n:Nat) (a:Int),lay a (down v p n)=a*2 ^ n+v / 2 ^ p % 2 ^ n
 | 0,a=>by
  show a=a*1+v / 2 ^ p % 1
  rw [Int.emod_one]; omega
 | n+1,a=>by
  show lay (a*2+bitV v (p+n)) (down v p n)=_
  rw [lay_down v p n,bitV_eq,mod_two,Int.pow_add,Int.pow_succ,← Int.ediv_ediv_of_nonneg (Int.le_of_lt (Int.pow_pos (by decide)))]
  rw [Int.add_mul,Int.mul_comm (2 ^ n) 2,← Int.mul_assoc]; omega
theorem lay_range:∀ (l:List (Int×Nat)) (a:Int) (n:Nat),0≤a→a<2 ^ n→0≤lay a l∧lay a l<2 ^ (n+l.length)
 | [],a,n,h1,h2=>⟨h1,h2⟩
 | (v,p) :: l,a,n,h1,h2=>by
  have b:=bitV_eq v p
  have:=lay_range l (a*2+bitV v p) (n+1) (by omega) (by rw [Int.pow_succ]; omega)
  rw [List.length_cons,show n+(l.length+1)=n+1+l.length by omega]
  exact this
end Mine
end
section
open PySem.SeqAt MineH
namespace Mine
section
variable {prog:Program} {w:World} {h:Heap}
def keyRows:List (Int×List RowF):=[(55,[(127,55,Str.ofString "lui",Str.ofString "U")]),(23,[(127,23,Str.ofString "auipc",Str.ofString "U")]),(111,[(127,111,Str.ofString "jal",Str.ofString "J")]),(103,[(28799,103,Str.ofString "jalr",Str.ofString "I")]),(99,[(28799,99,Str.ofString "beq",Str.ofString "B"),(28799,4195,Str.ofString "bne",Str.ofString "B"),(28799,16483,Str.ofString "blt",Str.ofString "B"),(28799,20579,Str.ofString "bge",Str.ofString "B"),(28799,24675,Str.ofString "bltu",Str.ofString "B"),(28799,28771,Str.ofString "bgeu",Str.ofString "B")]),(3,[(28799,3,Str.ofString "lb",Str.ofString "I"),(28799,4099,Str.ofString "lh",Str.ofString "I"),(28799,8195,Str.ofString "lw",Str.ofString "I"),(28799,16387,Str.ofString "lbu",Str.ofString "I"),(28799,20483,Str.ofString "lhu",Str.ofString "I")]),(35,[(28799,35,Str.ofString "sb",Str.ofString "S"),(28799,4131,Str.ofString "sh",Str.ofString "S"),(28799,8227,Str.ofString "sw",Str.ofString "S")]),(19,[(28799,19,Str.ofString "addi",Str.ofString "I"),(28799,8211,Str.ofString "slti",Str.ofString "I"),(28799,12307,Str.ofString "sltiu",Str.ofString "I"),(28799,16403,Str.ofString "xori",Str.ofString "I"),(28799,24595,Str.ofString "ori",Str.ofString "I"),(28799,28691,Str.ofString "andi",Str.ofString "I"),(4261441663,4115,Str.ofString "slli",Str.ofString "H"),(4261441663,20499,Str.ofString "srli",Str.ofString "H"),(4261441663,1073762323,Str.ofString "srai",Str.ofString "H")]),(15,[(4027580415,15,Str.ofString "fence",Str.ofString "F")]),(115,[(4294967295,115,Str.ofString "ecall",Str.ofString "E"),(4294967295,1048691,Str.ofString "ebreak",Str.ofString "E")]),(51,[(4261441663,51,Str.ofString "add",Str.ofString "R"),(4261441663,1073741875,Str.ofString "sub",Str.ofString "R"),(4261441663,4147,Str.ofString "sll",Str.ofString "R"),(4261441663,8243,Str.ofString "slt",Str.ofString "R"),(4261441663,12339,Str.ofString "sltu",Str.ofString "R"),(4261441663,16435,Str.ofString "xor",Str.ofString "R"),(4261441663,20531,Str.ofString "srl",Str.ofString "R"),(4261441663,1073762355,Str.ofString "sra",Str.ofString "R"),(4261441663,24627,Str.ofString "or",Str.ofString "R"),(4261441663,28723,Str.ofString "and",Str.ofString "R"),(4261441663,33554483,Str.ofString "mul",Str.ofString "R"),(4261441663,33558579,Str.ofString "mulh",Str.ofString "R"),(4261441663,33562675,Str.ofString "mulhsu",Str.ofString "R"),(4261441663,33566771,Str.ofString "mulhu",Str.ofString "R"),(4261441663,33570867,Str.ofString "div",Str.ofString "R"),(4261441663,33574963,Str.ofString "divu",Str.ofString "R"),(4261441663,33579059,Str.ofString "rem",Str.ofString "R"),(4261441663,33583155,Str.ofString "remu",Str.ofString "R")])]
def tb:List Stmt:=match bodyAt 48 with | (.For _ _ b _ _) :: _=>b | _=>[]
def cellV (n f k:Int):Int:=Builtin.bitXor n (1*2 ^ ((f+7*k).fmod 32).toNat)
def drF (f:Str):AV:=(lookS formsL drawL f).getD .none
def dueV (c:Int):List RowF→AV→AV
 | [],d=>d
 | (m,b,n,f) :: l,d=>dueV c l (joinA (Builtin.bitAnd c (m:Int)==(b:Int)) (.tup [.str n,fieldsV f c]) d)
def rowsT (c:Int):List RowF→AV→(AV→RS)→RS
 | [],d,K=>K d
 | (m,b,n,f) :: l,d,K=>.need (true=true) (.need ((Builtin.bitAnd c (m:Int)==(b:Int))=true→drF f=drF f∧(0≤c∧c<4294967296)∧True)
  (rowsT c l (joinA (Builtin.bitAnd c (m:Int)==(b:Int)) (.tup [.str n,fieldsV f c]) d) K))
def keysT (c:Int) (L:List RowF→AV→RS):List (Int×List RowF)→RS
 | []=>L [] .none
 | (k,rows) :: l=>.ite (decide (k=c.fmod 128)) (rowsT c rows .none (L rows)) (keysT c L l)
abbrev picsV:AV:=.dS formsL drawL
def tT (n f:Int):AEnv:=[("known_rows",v_BYOP),("pictures",picsV),("number",.sym n),("first",.sym f)]
def lastR:List RowF→Option RowF
 | []=>none
 | [r]=>some r
 | _ :: l=>lastR l
def outE (M:AEnv) (T:AEnv) (c:Int) (k:Int) (rows:List RowF) (d:AV):AEnv:=match lastR rows with
 | none=>([("due",d),("seen",decV c rowsF),("cell",.sym c),("turn",.num k)]:AEnv)++M++T
 | some (m,b,n,f)=>([("due",d),("fixed",.num (b:Int)),("mask",.num (m:Int)),("form",.str f),("name",.str n),("seen",decV c rowsF),("cell",.sym c),("turn",.num k)]:AEnv)++T
def leafT (M:AEnv) (T:AEnv) (c:Int) (k:Int) (rows:List RowF) (d:AV):RS:=
 .need ((eqN (und (decV c rowsF)) (und d)).isSome=true) (.ite (!(eqN (und (decV c rowsF)) (und d)).getD false)
  (.ret (.ret (.bool false),outE M T c k rows d,[])) (.ret (.nxt,outE M T c k rows d,[])))
def turnT (M:AEnv) (n f k:Int):RS:=.need (0≤(f+7*k).fmod 32∧(f+7*k).fmod 32≤1000000) (.need (0≤cellV n f k∧cellV n f k<4294967296)
 (keysT (cellV n f k) (leafT M (tT n f) (cellV n f k) k) keyRows))
abbrev turnE (M:AEnv) (n f k:Int):RS:=evalS c24 3 (scopeAt 48) 59 (("turn",.num k) :: (M++tT n f)) tb []
theorem turnA (n f:Int):turnE [] n f 0=turnT [] n f 0:=by kernel_rfl
def mB (d s c:AV):AEnv:=[("due",d),("seen",s),("cell",c)]
def mC (d a b e g s c:AV):AEnv:=[("due",d),("fixed",a),("mask",b),("form",e),("name",g),("seen",s),("cell",c)]
def mD (d a b e g s c:AV):AEnv:=[("due",d),("seen",s),("cell",c),("fixed",a),("mask",b),("form",e),("name",g)]
def mR (a b e g:AV):AEnv:=[("fixed",a),("mask",b),("form",e),("name",g)]
abbrev TurnOk (k:Int):Prop:=(∀ n f d s c,turnE (mB d s c) n f k=turnT [] n f k)∧(∀ n f d a b e g s c,turnE (mC d a b e g s c) n f k=turnT (mR a b e g) n f k)∧(∀ n f d a b e g s c,turnE (mD d a b e g s c) n f k=turnT (mR a b e g) n f k)
theorem turn1:TurnOk 1:=⟨fun n f d s c=>by kernel_rfl,fun n f d a b e g s c=>by kernel_rfl,fun n f d a b e g s c=>by kernel_rfl⟩
theorem turn2:TurnOk 2:=⟨fun n f d s c=>by kernel_rfl,fun n f d a b e g s c=>by kernel_rfl,fun n f d a b e g s c=>by kernel_rfl⟩
theorem turn3:TurnOk 3:=⟨fun n f d s c=>by kernel_rfl,fun n f d a b e g s c=>by kernel_rfl,fun n f d a b e g s c=>by kernel_rfl⟩
theorem turn4:TurnOk 4:=⟨fun n f d s c=>by kernel_rfl,fun n f d a b e g s c=>by kernel_rfl,fun n f d a b e g s c=>by kernel_rfl⟩
theorem turn5:TurnOk 5:=⟨fun n f d s c=>by kernel_rfl,fun n f d a b e g s c=>by kernel_rfl,fun n f d a b e g s c=>by kernel_rfl⟩
theorem turn6:TurnOk 6:=⟨fun n f d s c=>by kernel_rfl,fun n f d a b e g s c=>by kernel_rfl,fun n f d a b e g s c=>by kernel_rfl⟩
theorem turn7:TurnOk 7:=⟨fun n f d s c=>by kernel_rfl,fun n f d a b e g s c=>by kernel_rfl,fun n f d a b e g s c=>by kernel_rfl⟩
end
end Mine
end
section
open PySem.SeqAt MineH
namespace Mine
section
variable {prog:Program} {w:World} {h:Heap}
def hitR (W:Nat) (r:RowF):Bool:=decide (W &&& r.1=r.2.1)
theorem rowsF_N:∀ r∈rowsF,(r.1,r.2.1,r.2.2.1)∈rowsN:=by decide +kernel
theorem rowsF_uniq:∀ r∈rowsF,∀ r'∈rowsF,r.1=r'.1→r.2.1=r'.2.1→r=r':=by decide +kernel
theorem rowsF_mask:∀ r∈rowsF,r.1 % 128=127∧r.2.1 % 128=r.2.1 &&& 127:=by decide +kernel
theorem rowsF_nodup:∀ r∈rowsF,(keysF r.2.2.2).Nodup:=by decide +kernel
theorem keyRows_all:∀ r∈rowsF,((r.2.1 % 128:Nat):Int)∈keyRows.map (·.1):=by decide +kernel
theorem keyRows_ok:∀ p∈keyRows,p.2=rowsF.filter fun r=>decide (((r.2.1 % 128:Nat):Int)=p.1):=by decide +kernel
theorem hit_uniq {W:Nat} {r r':RowF} (hr:r∈rowsF) (hr':r'∈rowsF) (h:hitR W r=true) (h':hitR W r'=true):r=r':=by
 have a:=hit_cls (W:=W) (rowsF_N r hr) (show W &&& r.1=r.2.1 from of_decide_eq_true h)
 have b:=hit_cls (W:=W) (rowsF_N r' hr') (show W &&& r'.1=r'.2.1 from of_decide_eq_true h')
 exact rowsF_uniq r hr r' hr' (a.1.trans b.1.symm) (a.2.trans b.2.symm)
theorem hit_op {W:Nat} {r:RowF} (hr:r∈rowsF) (h:hitR W r=true):r.2.1 % 128=W % 128:=by
 have h:W &&& r.1=r.2.1:=of_decide_eq_true h
 rw [← h,show (128:Nat)=2 ^ 7 from rfl,Nat.and_mod_two_pow,show r.1 % 2 ^ 7=127 from (rowsF_mask r hr).1]
 have:=Nat.and_two_pow_sub_one_eq_mod (W % 2 ^ 7) 7
 rw [show (2:Nat) ^ 7 - 1=127 from rfl] at this
 rw [this,Nat.mod_mod]
theorem hit_dec (W m b:Nat):decide (Builtin.bitAnd (W:Int) (m:Int)=(b:Int))=decide (W &&& m=b):=by
 rw [bitAnd_nat]
 by_cases q:W &&& m=b
 ·rw [decide_eq_true q,decide_eq_true (by exact_mod_cast q)]
 ·rw [decide_eq_false q,decide_eq_false (by exact_mod_cast q)]
theorem hit_beq (W m b:Nat):(Builtin.bitAnd (W:Int) (m:Int)==(b:Int))=decide (W &&& m=b):=by
 rw [← hit_dec]; rfl
theorem decV_hit {W:Nat} {r:RowF}:∀ {l:List RowF},(∀ r'∈l,hitR W r'=true→r'=r)→r∈l→hitR W r=true→und (decV (W:Int) l)=decF (W:Int) r.2.2.1 r.2.2.2
 | [],_,h,_=>(nomatch h)
 | (m,b,n,f) :: l,hu,hr,hh=>by
  show (match decide (Builtin.bitAnd (W:Int) (m:Int)=(b:Int)) with | true=>und (decF (W:Int) n f) | false=>und (decV (W:Int) l))=_
  rw [hit_dec]
  cases q:decide (W &&& m=b) with
  | true=>
   have:=hu (m,b,n,f) (by simp) q
   subst this; rfl
  | false=>
   rcases List.mem_cons.mp hr with e | e
   ·subst e
    have hh:decide (W &&& m=b)=true:=hh
    rw [q] at hh; cases hh
   ·exact decV_hit (fun r' h'=>hu r' (by simp [h'])) e hh
theorem decV_miss {W:Nat}:∀ {l:List RowF},(∀ r'∈l,hitR W r'=false)→und (decV (W:Int) l)=.none
 | [],_=>rfl
 | (m,b,n,f) :: l,hu=>by
  show (match decide (Builtin.bitAnd (W:Int) (m:Int)=(b:Int)) with | true=>und (decF (W:Int) n f) | false=>und (decV (W:Int) l))=_
  rw [hit_dec,show decide (W &&& m=b)=false from hu (m,b,n,f) (by simp)]
  exact decV_miss fun r' h'=>hu r' (by simp [h'])
theorem joinA_tup (b:Bool) (l:List AV) (d:AV):joinA b (.tup l) d=.ite b (.tup l) d:=by unfold joinA; rfl
theorem dueV_miss {W:Nat}:∀ {l:List RowF} {d:AV},(∀ r'∈l,hitR W r'=false)→und (dueV (W:Int) l d)=und d
 | [],_,_=>rfl
 | (m,b,n,f) :: l,d,hu=>by
  show und (dueV (W:Int) l (joinA (Builtin.bitAnd (W:Int) (m:Int)==(b:Int)) (.tup [.str n,fieldsV f (W:Int)]) d))=_
  rw [dueV_miss fun r' h'=>hu r' (by simp [h']),joinA_tup,hit_beq,show decide (W &&& m=b)=false from hu (m,b,n,f) (by simp)]
  rfl
theorem dueV_hit {W:Nat} {r:RowF}:∀ {l:List RowF} {d:AV},(∀ r'∈l,hitR W r'=true→r'=r)→(r∈l∨und d=decF (W:Int) r.2.2.1 r.2.2.2)→hitR W r=true→und (dueV (W:Int) l d)=decF (W:Int) r.2.2.1 r.2.2.2
 | [],_,_,h,_=>h.resolve_left (by simp)
 | (m,b,n,f) :: l,d,hu,hr,hh=>by
  show und (dueV (W:Int) l (joinA (Builtin.bitAnd (W:Int) (m:Int)==(b:Int)) (.tup [.str n,fieldsV f (W:Int)]) d))=_
  refine dueV_hit (fun r' h'=>hu r' (by simp [h'])) ?_ hh
  rw [joinA_tup,hit_beq]
  cases q:decide (W &&& m=b) with
  | true=>
   have:=hu (m,b,n,f) (by simp) q
   subst this
   exact .inr rfl
  | false=>
   rcases hr with hr | hr
   ·rcases List.mem_cons.mp hr with e | e
    ·subst e
     have hh:decide (W &&& m=b)=true:=hh
     rw [q] at hh; cases hh
    ·exact .inl e
   ·exact .inr hr
theorem eqFL_syms (g:Str→Int):∀ ks:List Str,eqFL (ks.map fun k=>.sym (g k)) (ks.map fun k=>.sym (g k))=some true
 | []=>rfl
 | k :: ks=>by
  show (match eqF (.sym (g k)) (.sym (g k)),eqFL (ks.map fun k=>.sym (g k)) (ks.map fun k=>.sym (g k)) with | some b,some c=>some (b&&c) | _,_=>none)=_
  rw [eqFL_syms g ks]
  show (match some (g k==g k),some true with | some b,some c=>some (b&&c) | _,_=>none)=some true
  rw [beq_self_eq_true]; rfl
theorem eqN_dec {w:Int} {n f:Str} (hn:(keysF f).Nodup):eqN (decF w n f) (decF w n f)=some true:=by
 show eqGL [.str n,.dS (keysF f) ((keysF f).map fun k=>.sym (fieldV f w k))] [.str n,.dS (keysF f) ((keysF f).map fun k=>.sym (fieldV f w k))]=_
 have e1:eqG (.str n) (.str n)=some true:=by
  show some (n==n)=_
  rw [beq_self_eq_true]
 have e2:eqG (.dS (keysF f) ((keysF f).map fun k=>.sym (fieldV f w k))) (.dS (keysF f) ((keysF f).map fun k=>.sym (fieldV f w k)))=some true:=by
  show (match decide (keysF f=keysF f∧(keysF f).Nodup) with | true=>eqFL ((keysF f).map fun k=>.sym (fieldV f w k)) ((keysF f).map fun k=>.sym (fieldV f w k)) | false=>none)=_
  rw [decide_eq_true ⟨rfl,hn⟩]
  exact eqFL_syms _ _
 show (match eqG (.str n) (.str n),(match eqG (.dS (keysF f) ((keysF f).map fun k=>.sym (fieldV f w k))) (.dS (keysF f) ((keysF f).map fun k=>.sym (fieldV f w k))),eqGL [] [] with | some b,some c=>some (b&&c) | _,_=>none) with | some b,some c=>some (b&&c) | _,_=>none)=_
 rw [e1,e2]; rfl
theorem turn_eq {W:Nat} {rows:List RowF} (hr:∀ r∈rows,r∈rowsF) (ha:∀ r∈rowsF,hitR W r=true→r∈rows):eqN (und (decV (W:Int) rowsF)) (und (dueV (W:Int) rows .none))=some true:=by
 by_cases q:∃ r∈rowsF,hitR W r=true
 ·obtain ⟨r,h1,h2⟩:=q
  rw [decV_hit (fun r' h' e=>hit_uniq h' h1 e h2) h1 h2,dueV_hit (fun r' h' e=>hit_uniq (hr r' h') h1 e h2) (.inl (ha r h1 h2)) h2]
  exact eqN_dec (rowsF_nodup r h1)
 ·have no:∀ r∈rowsF,hitR W r=false:=fun r h=>by
   cases e:hitR W r with
   | false=>rfl
   | true=>exact (q ⟨r,h,e⟩).elim
  rw [decV_miss no,dueV_miss fun r h=>no r (hr r h)]
  rfl
theorem rowsT_holds {c:Int} (hc:0≤c∧c<4294967296) {K:AV→RS} {P:Fl×AEnv×SL→Prop} {X:Prop}:∀ {l:List RowF} {d:AV},(K (dueV c l d)).Holds P X→(rowsT c l d K).Holds P X
 | [],_,h=>h
 | (_,_,_,_) :: _,_,h=>⟨rfl,fun _=>⟨rfl,hc,trivial⟩,rowsT_holds hc h⟩
theorem keysT_holds {c:Int} (hc:0≤c∧c<4294967296) {L:List RowF→AV→RS} {P:Fl×AEnv×SL→Prop} {X:Prop}:∀ {l:List (Int×List RowF)},(∀ p∈l,p.1=c.fmod 128→(L p.2 (dueV c p.2 .none)).Holds P X)→((∀ p∈l,p.1≠c.fmod 128)→(L [] .none).Holds P X)→(keysT c L l).Holds P X
 | [],_,h=>h fun p hp=>(nomatch hp)
 | (k,rows) :: l,h1,h2=>⟨fun e=>rowsT_holds hc (h1 (k,rows) (by simp) (of_decide_eq_true e)),fun e=>keysT_holds hc (fun p hp=>h1 p (by simp [hp])) fun hn=>h2 fun p hp=>by
  rcases List.mem_cons.mp hp with q | q
  ·subst q; exact of_decide_eq_false e
  ·exact hn p q⟩
def ShapeT (T:AEnv) (env:AEnv):Prop:=(∃ d s c t,env=([("due",d),("seen",s),("cell",c),("turn",t)]:AEnv)++T)
 ∨ (∃ d a b e g s c t,env=([("due",d),("fixed",a),("mask",b),("form",e),("name",g),("seen",s),("cell",c),("turn",t)]:AEnv)++T)
 ∨ (∃ d a b e g s c t,env=([("due",d),("seen",s),("cell",c),("turn",t),("fixed",a),("mask",b),("form",e),("name",g)]:AEnv)++T)
theorem turn_holds {N:Nat} {f k:Int} {M T:AEnv} {P:Fl×AEnv×SL→Prop} (hN:N<4294967296) (hT:T=tT (N:Int) f)
  (hP:∀ c rows d,P (.nxt,outE M T c k rows d,[])):(turnT M (N:Int) f k).Holds P False:=by
 subst hT
 have hm:0≤(f+7*k).fmod 32∧(f+7*k).fmod 32<32:=by
  rw [Int.fmod_eq_emod_of_nonneg _ (by decide)]; omega
 obtain ⟨j,hj⟩:=Int.eq_ofNat_of_zero_le hm.1
 have hj32:j<32:=by omega
 have hc:cellV (N:Int) f k=((N ^^^ 2 ^ j:Nat):Int):=by
  unfold cellV
  rw [hj,Int.toNat_natCast,Int.one_mul,show ((2:Int) ^ j)=((2 ^ j:Nat):Int) by push_cast; rfl,bitXor_nat]
 have hlt:N ^^^ 2 ^ j<4294967296:=Nat.xor_lt_two_pow (n:=32) hN (Nat.pow_lt_pow_right (by decide) hj32)
 have hr:0≤cellV (N:Int) f k∧cellV (N:Int) f k<4294967296:=by rw [hc]; omega
 refine ⟨⟨hm.1,by omega⟩,hr,?_⟩
 generalize hC:cellV (N:Int) f k=c at *
 generalize hW:N ^^^ 2 ^ j=W at *
 have fin:∀ rows:List RowF,(∀ r∈rows,r∈rowsF)→(∀ r∈rowsF,hitR W r=true→r∈rows)→(leafT M (tT (N:Int) f) c k rows (dueV c rows .none)).Holds P False:=fun rows h1 h2=>by
  have e:=turn_eq h1 h2
  rw [← hc] at e
  unfold leafT
  rw [e]
  exact ⟨rfl,fun q=>(nomatch q),fun _=>hP c rows _⟩
 have fm:c.fmod 128=((W % 128:Nat):Int):=by
  rw [hc,Int.fmod_eq_emod_of_nonneg _ (by decide)]; rfl
 refine keysT_holds hr (fun p hp e=>?_) fun hn=>?_
 ·have ek:=keyRows_ok p hp
  refine fin p.2 (fun r h=>?_) (fun r h1 h2=>?_)
  ·rw [ek] at h; exact (List.mem_filter.mp h).1
  ·rw [ek]
   refine List.mem_filter.mpr ⟨h1,decide_eq_true ?_⟩
   rw [hit_op h1 h2,e,fm]
 ·refine fin [] (fun r h=>(nomatch h)) (fun r h1 h2=>?_)
  obtain ⟨p,hp,e⟩:=List.mem_map.mp (keyRows_all r h1)
  exact (hn p hp (by rw [e,hit_op h1 h2,fm])).elim
end
end Mine
end
section
open PySem.SeqAt MineH
namespace Mine
section
variable {prog:Program} {w:World} {h:Heap}
def forP:Stmt→Expr×Expr×List Stmt×Pos
 | .For t i b _ p=>(t,i,b,p)
 | _=>(.Name "" ⟨0,0,0,0⟩,.Name "" ⟨0,0,0,0⟩,[],⟨0,0,0,0⟩)
def stAt (l:List Stmt) (n:Nat):Stmt:=(l[n]?).getD (.Pass ⟨0,0,0,0⟩)
abbrev f48:Expr×Expr×List Stmt×Pos:=forP (stAt (bodyAt 48) 0)
theorem body48:bodyAt 48=[.For f48.1 f48.2.1 tb [] f48.2.2.2,stAt (bodyAt 48) 1]:=by kernel_rfl
theorem ret48 (env:AEnv):evalS c24 3 (scopeAt 48) 59 env [stAt (bodyAt 48) 1] []=.ret (.ret (.bool true),env,[]):=by kernel_rfl
theorem iter48 (env:AEnv) (h:env.lookup ("range" : Str)=none):evalE c24 3 59 (scopeAt 48) env f48.2.1 []=.ret (none,.rng 0 8 1):=by
 have:evalE c24 3 59 (scopeAt 48) env f48.2.1 []=(match env.lookup ("range" : Str) with | some _=>.fail | none=>.ret (none,.rng 0 8 1)):=by kernel_rfl
 rw [this,h]
abbrev tE (k:Int) (M:AEnv) (n f:Int):AEnv:=("turn",.num k) :: (M++tT n f)
def ns8:List AV:=[.num 1,.num 2,.num 3,.num 4,.num 5,.num 6,.num 7]
theorem bindA (n f k:Int):bindP (scopeAt 48) f48.1 (.num k) (tT n f)=some (tE k (([]:AEnv)) n f):=by kernel_rfl
theorem bindB (n f k:Int) (d s c t:AV):bindP (scopeAt 48) f48.1 (.num k) (([("due",d),("seen",s),("cell",c),("turn",t)]:AEnv)++tT n f)=some (tE k (mB d s c) n f):=by kernel_rfl
theorem bindC (n f k:Int) (d a b e g s c t:AV):bindP (scopeAt 48) f48.1 (.num k) (([("due",d),("fixed",a),("mask",b),("form",e),("name",g),("seen",s),("cell",c),("turn",t)]:AEnv)++tT n f)=some (tE k (mC d a b e g s c) n f):=by kernel_rfl
theorem bindD (n f k:Int) (d a b e g s c t:AV):bindP (scopeAt 48) f48.1 (.num k) (([("due",d),("seen",s),("cell",c),("turn",t),("fixed",a),("mask",b),("form",e),("name",g)]:AEnv)++tT n f)=some (tE k (mD d a b e g s c) n f):=by kernel_rfl
theorem outE_shape0 (T:AEnv) (c k:Int) (rows:List RowF) (d:AV):ShapeT T (outE [] T c k rows d):=by
 unfold outE
 cases lastR rows with
 | none=>exact .inl ⟨_,_,_,_,rfl⟩
 | some r=>exact .inr (.inl ⟨_,_,_,_,_,_,_,_,rfl⟩)
theorem outE_shapeR (T:AEnv) (a b e g:AV) (c k:Int) (rows:List RowF) (d:AV):ShapeT T (outE (mR a b e g) T c k rows d):=by
 unfold outE
 cases lastR rows with
 | none=>exact .inr (.inr ⟨_,_,_,_,_,_,_,_,rfl⟩)
 | some r=>exact .inr (.inl ⟨_,_,_,_,_,_,_,_,rfl⟩)
theorem turns:∀ x∈ns8,∃ k,x=.num k∧TurnOk k:=by
 intro x hx
 simp only [ns8,List.mem_cons,List.not_mem_nil,or_false] at hx
 rcases hx with q | q | q | q | q | q | q<;>subst q
 ·exact ⟨1,rfl,turn1⟩
 ·exact ⟨2,rfl,turn2⟩
 ·exact ⟨3,rfl,turn3⟩
 ·exact ⟨4,rfl,turn4⟩
 ·exact ⟨5,rfl,turn5⟩
 ·exact ⟨6,rfl,turn6⟩
 ·exact ⟨7,rfl,turn7⟩
theorem turn_hx {N:Nat} {f k:Int} {M T:AEnv} {P:Fl×AEnv×SL→Prop} (hN:N<4294967296) (hT:T=tT (N:Int) f)
  (hP:∀ c rows d,P (.nxt,outE M T c k rows d,[])):HX (turnT M (N:Int) f k) P False:=⟨turn_holds hN hT hP⟩
theorem turned_holds {N:Nat} (hN:N<4294967296) (f:Int):HX (run c24 3 48 ["known_rows","pictures","number","first"] [v_BYOP,picsV,.sym (N:Int),.sym f]) (fun av=>av=.bool true) False:=by
 refine run_of (by kernel_rfl) ?_
 rw [body48]
 refine cons_of (for_of (v:=.rng 0 8 1) (items:=.num 0 :: ns8) (by kernel_rfl) (iter48 _ (by kernel_rfl)) (by kernel_rfl) (by kernel_rfl) ?_)
 refine turn_of (bindA (N:Int) f 0) ?_
 refine hx_eq (turnA _ _) (turn_hx hN rfl fun c rows d=>?_)
 refine loop_of (I:=fun env sl=>sl=[]∧ShapeT (tT (N:Int) f) env) (fun x hx env sl hi=>?_) (fun env sl hi=>?_) ⟨rfl,outE_shape0 _ _ _ _ _⟩
 ·obtain ⟨hs,hi⟩:=hi
  subst hs
  obtain ⟨k,hk,t1,t2,t3⟩:=turns x hx
  subst hk
  rcases hi with ⟨d,s,c,t,e⟩ | ⟨d,a,b,e',g,s,c,t,e⟩ | ⟨d,a,b,e',g,s,c,t,e⟩<;>subst e
  ·exact ⟨_,bindB _ _ _ _ _ _ _,hx_eq (t1 _ _ _ _ _) (turn_hx hN rfl fun c rows d=>⟨rfl,outE_shape0 _ _ _ _ _⟩)⟩
  ·exact ⟨_,bindC _ _ _ _ _ _ _ _ _ _ _,hx_eq (t2 _ _ _ _ _ _ _ _ _) (turn_hx hN rfl fun c rows d=>⟨rfl,outE_shapeR _ _ _ _ _ _ _ _ _⟩)⟩
  ·exact ⟨_,bindD _ _ _ _ _ _ _ _ _ _ _,hx_eq (t3 _ _ _ _ _ _ _ _ _) (turn_hx hN rfl fun c rows d=>⟨rfl,outE_shapeR _ _ _ _ _ _ _ _ _⟩)⟩
 ·obtain ⟨hs,_⟩:=hi
  subst hs
  exact end_of (ret48 env) rfl rfl
theorem PureFn.coerce {G:Heap} {a:Addr} {n:Nat} {sp sp':List AV→R AV} (h:PureFn prog w G a ⟨n,sp⟩) (hw:∀ (args:List AV) (P:AV→Prop),HX (sp' args) P False→∃ args',(∀ V vs,HasL prog w V [] args vs→HasL prog w V [] args' vs)∧HX (sp args') (fun av=>∃ av',P av'∧Sub prog w av av') False):PureFn prog w G a ⟨n,sp'⟩:=
 fun X fr s A vs avs P Q E h1 h2 h3 h4 h5 h6 h7 h8 h9=>by
  obtain ⟨args',c1,c2⟩:=hw avs P ⟨h8⟩
  exact h X fr s A vs args' _ Q E h1 h2 h3 h4 h5 h6 (c1 _ _ h7) c2.out fun v s' av g hh ⟨av',hp,hs⟩=>h9 v s' av' g (hs _ v hh) hp
def turnS:List AV→R AV:=fun args=>match args with
 | [a,p,n,f]=>(match intOf n,intOf f with
  | some (i,_),some _=>.need (a=v_BYOP∧p=picsV∧0≤i∧i<4294967296) (.ret (.bool true))
  | _,_=>.fail)
 | _=>.fail
theorem turnS_noexc (l:List AV):NoExc (turnS l):=by
 unfold turnS
 split
 ·split<;>trivial
 ·trivial
theorem turned_coerce {a p n f:AV} {i j:Int} {bi bj:Bool} (e1:intOf n=some (i,bi)) (e2:intOf f=some (j,bj)) (V:Vis) (vs:List Value):HasL prog w V [] [a,p,n,f] vs→HasL prog w V [] [a,p,.sym i,.sym j] vs:=
 fun ⟨v,r,q1,q2,u,r',q3,q4,x,r'',q5,q6,y,r''',q7,q8,q9⟩=>⟨v,r,q1,q2,u,r',q3,q4,x,r'',q5,sym_of e1 q6,y,r''',q7,sym_of e2 q8,q9⟩
theorem ok_of {x:R AV} {v:AV} {P:AV→Prop} (h:HX x (fun av=>av=v) False) (hp:P v):HX x (fun av=>∃ av',P av'∧Sub prog w av av') False:=hx_mono h fun av e=>⟨v,hp,by rw [e]; exact sub_refl _⟩
theorem turned_ok (args:List AV) (P:AV→Prop) (hh:HX (turnS args) P False):∃ args',(∀ V vs,HasL prog w V [] args vs→HasL prog w V [] args' vs)∧HX (run c24 3 48 ["known_rows","pictures","number","first"] args') (fun av=>∃ av',P av'∧Sub prog w av av') False:=by
 unfold turnS at hh
 split at hh
 ·rename_i a p n f
  split at hh
  ·rename_i i bi j e1 e2
   have hq:(a=v_BYOP∧p=picsV∧0≤i∧i<4294967296)∧P (.bool true):=hh.out
   have ha:=hq.1.1
   have hp:=hq.1.2.1
   obtain ⟨N,hN⟩:=Int.eq_ofNat_of_zero_le hq.1.2.2.1
   have hl:N<4294967296:=by have:=hq.1.2.2.2; omega
   refine ⟨[a,p,.sym i,.sym j.1],fun V vs=>turned_coerce e1 e2 V vs,?_⟩
   rw [ha,hp,hN]
   exact ok_of (turned_holds hl _) hq.2
  ·exact hh.out.elim
 ·exact hh.out.elim
def c25:Ctx:=c24.add "_law_is_turned_right" 3 turnS
theorem gok25 (X:(Kx w.params).In h) (lim:h.NoLimit):GOK prog w c25 h:=gok_add (gok24 X lim) (gm_of X (by kernel_rfl)) ⟨o664 w.params,_,X 664 _ (by kernel_rfl),rfl⟩ ((run_ok (d48 X lim) (gok24 X lim) rfl).coerce turned_ok) turnS_noexc
end
end Mine
end
section
open PySem.SeqAt MineH
namespace Mine
section
variable {prog:Program} {w:World} {h:Heap}
def fdOf (o:Obj):Option FuncData:=match o.data with | .func fd=>some fd | _=>none
def fdI (w:World):FuncData:=match (o28 w.params).data with | .func fd=>fd | _=>docDef "" ⟨[],[],none,[],[],none,[]⟩ [] (scopeAt 0) .none .none .none
theorem noCellI (w:World):∀ x∈(fdI w).scope.names,x.2≠.cell:=fun x hx=>by
 have e:((fdI w).scope.names.all fun p=>!decide (p.2=.cell))=true:=by kernel_rfl
 simpa using List.all_eq_true.mp e x hx
theorem initAt (X:(Kx w.params).In h):InitAt h 28:=
 ⟨⟨o28 w.params,fdI w,⟨5,8,5,17⟩,⟨5,8,5,26⟩,⟨5,27,5,31⟩,⟨5,33,5,37⟩,⟨5,8,5,38⟩,⟨5,8,5,38⟩,⟨6,8,6,12⟩,⟨6,8,6,17⟩,⟨6,20,6,24⟩,⟨6,8,6,24⟩,⟨7,8,7,12⟩,⟨7,8,7,17⟩,⟨7,20,7,24⟩,⟨7,8,7,24⟩,
  X 28 (o28 w.params) (by kernel_rfl),by kernel_rfl,by kernel_rfl,by kernel_rfl,by kernel_rfl,by kernel_rfl,by kernel_rfl,⟨27,_,_,_,rfl,X 27 (o27 w.params) (by kernel_rfl),rfl,rfl⟩,
  fun vals e=>match vals,e with | [a,b,c],_=>by kernel_rfl,by kernel_rfl,by kernel_rfl,by kernel_rfl,noCellI w,by kernel_rfl,by kernel_rfl,by kernel_rfl,by kernel_rfl⟩⟩
theorem cls31 (X:(Kx w.params).In h):h.get? 31=some (excClassObj "AssemblyFault" "AssemblyFault" 31 30 [.type "Exception"] bmE true [] [] false none none (some (.ref 15)) none (some (.str "AssemblyFault" 189)) (some (.str "AssemblyFault" 197)) (some (.bool true)) "Exception.__new__"):=by
 have e:=X 31 (o31 w.params) (by kernel_rfl)
 rw [e]
 kernel_rfl
theorem afat (X:(Kx w.params).In h) (lim:h.NoLimit):AFat h 31 30 28 where
 cls:=⟨_,_,_,_,_,_,_,_,_,_,_,_,_,cls31 X⟩
 ns:=⟨nsFind (dictEs (o30 w.params)),ns_at (X 30 _ (by kernel_rfl)) (by kernel_rfl) (by kernel_rfl),by kernel_rfl,by kernel_rfl,by kernel_rfl,by kernel_rfl⟩
 init:=initAt X
 lim:=lim
 glob:=⟨gm w,bmm w,ns_g X,ns_b X,by kernel_rfl,by kernel_rfl⟩
def syV:AV→AV
 | .num i=>.sym i
 | v=>v
def sy:AV→AV
 | .num i=>.sym i
 | .dS ks l=>.dS ks (l.map syV)
 | v=>v
theorem syV_has {V:Vis} {v:Value}:∀ {x:AV},Has prog w V [] x v→Has prog w V [] (syV x) v:=by
 intro x hx
 cases x<;>exact hx
theorem syL_has {V:Vis}:∀ {l:List AV} {vs:List Value},HasL prog w V [] l vs→HasL prog w V [] (l.map syV) vs
 | [],_,h=>h
 | _ :: _,_,⟨v,r,e,h1,h2⟩=>⟨v,r,e,syV_has h1,syL_has h2⟩
theorem sy_has {V:Vis} {v:Value}:∀ {x:AV},Has prog w V [] x v→Has prog w V [] (sy x) v:=by
 intro x hx
 cases x with
 | dS ks l=>obtain ⟨a,o,vs,e,hv,hd,hl,hh⟩:=hx; exact ⟨a,o,vs,e,hv,hd,hl,syL_has hh⟩
 | _=>exact hx
theorem syA_has {V:Vis}:∀ {l:List AV} {vs:List Value},HasL prog w V [] l vs→HasL prog w V [] (l.map sy) vs
 | [],_,h=>h
 | _ :: _,_,⟨v,r,e,h1,h2⟩=>⟨v,r,e,sy_has h1,syA_has h2⟩
theorem PureFn.joinB {G:Heap} {a:Addr} {n:Nat} {sp:List AV→R AV} (h:PureFn prog w G a ⟨n,sp⟩):PureFn prog w G a ⟨n,fun args=>joinB sp (args.map sy)⟩:=
 h.coerce fun args P hh=>⟨args.map sy,fun V vs=>syA_has,⟨joinB_holds _ P hh.out⟩⟩
theorem PureFn.joinI {G:Heap} {a:Addr} {n:Nat} {sp:List AV→R AV} (h:PureFn prog w G a ⟨n,sp⟩):PureFn prog w G a ⟨n,fun args=>joinI sp (args.map sy)⟩:=
 h.coerce fun args P hh=>⟨args.map sy,fun V vs=>syA_has,⟨joinI_holds _ P hh.out⟩⟩
def fitsS:List AV→R AV:=fun args=>joinB (run c9 0 20 ["name","imm"]) (args.map sy)
def c26:Ctx:=c25.add "fits" 0 fitsS
theorem gok26 (X:(Kx w.params).In h) (lim:h.NoLimit):GOK prog w c26 h:=gok_add (gok25 X lim) (gm_of X (by kernel_rfl)) ⟨o293 w.params,_,X 293 _ (by kernel_rfl),rfl⟩ ((run_ok (d20 X lim) (gok9 X lim) rfl).joinB) fun _=>joinB_noexc _
def cX:Ctx:={ c26 with raise:=true }
theorem gokX (X:(Kx w.params).In h) (lim:h.NoLimit):GOK prog w cX h:=⟨(gok26 X lim).names⟩
def encX:List AV→R AV:=specF cX 1 60 (scopeAt 25) (bodyAt 25) ["name","fields"]
theorem enc_raise (X:(Kx w.params).In h) (lim:h.NoLimit):RaiseFn prog w h 31 328 ⟨1,encX⟩:=
 runX_ok (C:=cX) (d25 X lim) (gokX X lim) (Nat.le_refl 1) (afat X lim) (gm_of X (by kernel_rfl)) (by kernel_rfl) 60
theorem RaiseFn.pure {G:Heap} {C a:Addr} {n:Nat} {sp:List AV→R AV} (h:RaiseFn prog w G C a ⟨n,sp⟩):PureFn prog w G a ⟨n,fun args=>noX (sp args)⟩:=
 fun X fr s A vs avs P Q E h1 h2 h3 h4 h5 h6 h7 h8 h9=>h X fr s A vs avs P False Q E h1 h2 h3 h4 h5 h6 h7 (noX_holds (X:=False) h8) h9 fun q=>q.elim
def encS:List AV→R AV:=fun args=>joinI (fun a=>noX (encX a)) (args.map sy)
def c27:Ctx:=c26.add "encode" 1 encS
theorem gok27 (X:(Kx w.params).In h) (lim:h.NoLimit):GOK prog w c27 h:=gok_add (gok26 X lim) (gm_of X (by kernel_rfl)) ⟨o328 w.params,_,X 328 _ (by kernel_rfl),rfl⟩ ((enc_raise X lim).pure.joinI) fun _=>joinI_noexc _
theorem body44:bodyAt 44=refBody 0 0 ⟨181,8,181,14⟩ ⟨181,15,181,19⟩ ⟨181,21,181,27⟩ ⟨181,8,181,28⟩ ⟨181,8,181,28⟩ ⟨182,11,182,24⟩ ⟨183,15,183,19⟩ ⟨183,8,183,19⟩ ⟨182,4,183,19⟩ ⟨180,4,183,19⟩ ⟨184,11,184,16⟩ ⟨184,4,184,16⟩:=by kernel_rfl
def refX:List AV→R AV:=fun args=>guardB (Nat.beq args.length 2) (catchR (encX args))
theorem ref_ok (X:(Kx w.params).In h) (lim:h.NoLimit):PureFn prog w h 640 ⟨2,refX⟩:=by
 have D:=d44 X lim
 rw [body44] at D
 exact refused_ok (C:=cX) D (afat X lim) ⟨gm w,ns_g X,by kernel_rfl,by kernel_rfl⟩ ⟨o328 w.params,_,X 328 _ (by kernel_rfl),rfl⟩ (enc_raise X lim) (Nat.le_refl 2) (by kernel_rfl) (by kernel_rfl)
def refS:List AV→R AV:=fun args=>joinB refX (args.map sy)
def c28:Ctx:=c27.add "_law_is_refused" 2 refS
theorem gok28 (X:(Kx w.params).In h) (lim:h.NoLimit):GOK prog w c28 h:=gok_add (gok27 X lim) (gm_of X (by kernel_rfl)) ⟨o640 w.params,_,X 640 _ (by kernel_rfl),rfl⟩ ((ref_ok X lim).joinB) fun _=>joinB_noexc _
def laidS:List AV→R AV:=fun args=>joinI (run c15 0 40 ["drawing","known"]) (args.map sy)
def c29:Ctx:=c28.add "_law_laid" 0 laidS
theorem gok29 (X:(Kx w.params).In h) (lim:h.NoLimit):GOK prog w c29 h:=gok_add (gok28 X lim) (gm_of X (by kernel_rfl)) ⟨o612 w.params,_,X 612 _ (by kernel_rfl),rfl⟩ ((run_ok (d40 X lim) (gok15 X lim) rfl).joinI) fun _=>joinI_noexc _
def c30:Ctx:={ c29 with wfuns:=("_law_draw",⟨0,drawW⟩) :: c29.wfuns }
theorem gok30 (X:(Kx w.params).In h) (lim:h.NoLimit):GOK prog w c30 h:=gok_addW (gok29 X lim) (gm_of X (by kernel_rfl)) ⟨o591 w.params,_,X 591 _ (by kernel_rfl),rfl⟩ (draw_ok X lim) drawW_noexc
end
end Mine
end
section
open PySem.SeqAt MineH
namespace Mine
section
variable {prog:Program} {w:World} {h:Heap}
def bitsX:List AV→R AV:=run c10 0 21 ["form","imm"]
def withX:List AV→R AV:=run c13 2 24 ["word","form","imm"]
def laidX:List AV→R AV:=run c15 0 40 ["drawing","known"]
def fitsX:List AV→R AV:=run c9 0 20 ["name","imm"]
def encN:List AV→R AV:=fun a=>noX (encX a)
def bitsS:List AV→R AV:=fun args=>joinI bitsX (args.map sy)
def withS:List AV→R AV:=fun args=>joinI withX (args.map sy)
def c31a:Ctx:=c30.add "imm_bits" 0 bitsS
def c31:Ctx:=c31a.add "with_imm" 2 withS
theorem gok31a (X:(Kx w.params).In h) (lim:h.NoLimit):GOK prog w c31a h:=gok_add (gok30 X lim) (gm_of X (by kernel_rfl)) ⟨o300 w.params,_,X 300 _ (by kernel_rfl),rfl⟩ ((run_ok (d21 X lim) (gok10 X lim) rfl).joinI) fun _=>joinI_noexc _
theorem gok31 (X:(Kx w.params).In h) (lim:h.NoLimit):GOK prog w c31 h:=gok_add (gok31a X lim) (gm_of X (by kernel_rfl)) ⟨o321 w.params,_,X 321 _ (by kernel_rfl),rfl⟩ ((run_ok (d24 X lim) (gok13 X lim) rfl).joinI) fun _=>joinI_noexc _
def pics:List Str:=match v_P with | .dS _ l=>(match strsOf l with | some m=>m | none=>[]) | _=>[]
def picF (f:Str):Str:=match lookS formsL (pics.map .str) f with | some (.str x)=>x | _ => ""
def tabL:List (Str×Int×Int×Int×Int):=[("I",4293918720,1,-2048,2048),("H",32505856,1,0,32),("S",4261416832,1,-2048,2048),("B",4261416832,2,-4096,4096),("U",4294963200,1,0,1048576),("J",4294963200,2,-1048576,1048576),("F",267386880,1,0,256)]
def tabF (f:Str):Int×Int×Int×Int:=(tabL.lookup f).getD (0,0,0,0)
def maskF (f:Str):Int:=(tabF f).1
def paceF (f:Str):Int:=(tabF f).2.1
def leastF (f:Str):Int:=(tabF f).2.2.1
def endFo (f:Str):Int:=(tabF f).2.2.2
def manyF (f:Str):Int:=(endFo f - leastF f) / paceF f
def fieldsA (f:Str) (g:Str→Int):AV:=.dS (keysF f) ((keysF f).map fun k=>.sym (g k))
def withA (f:Str) (g:Str→Int) (e:AV):AV:=.dS (keysF f) ((keysF f).map fun k=>match k==("imm" : Str) with | true=>e | false=>.sym (g k))
def dropA (f:Str) (g:Str→Int) (key:Str):AV:=.dS ((keysF f).filter fun k=>!(k==key)) (((keysF f).filter fun k=>!(k==key)).map fun k=>.sym (g k))
def E0 (n f:Str) (g:Str→Int):AEnv:=[("well",.loc 0),("name",.str n),("form",.str f),("drawing",drF f),("fields",fieldsA f g)]
def E1 (n f:Str) (g:Str→Int) (c r:Int):AEnv:=("far",.sym r) :: ("cell",.sym c) :: E0 n f g
def E2 (n f:Str) (g:Str→Int) (c r b:Int):AEnv:=("picture",.str (picF f)) :: ("value",.sym (g "imm")) :: ("base",.sym b) :: E1 n f g c r
def E3 (n f:Str) (g:Str→Int) (c r b:Int):AEnv:=("mask",.num (maskF f)) :: E2 n f g c r b
def E4 (n f:Str) (g:Str→Int) (c r b u:Int):AEnv:=("due",.sym u) :: E3 n f g c r b
def E5 (n f:Str) (g:Str→Int) (c r b u x:Int):AEnv:=("changed",.sym x) :: E4 n f g c r b u
def E7 (n f:Str) (g:Str→Int) (c r b u x:Int):AEnv:=("many",.num (manyF f)) :: ("pace",.num (paceF f)) :: E5 n f g c r b u x
def E8 (n f:Str) (g:Str→Int) (c r b u x:Int):AEnv:=("least",.num (leastF f)) :: E7 n f g c r b u x
def E9 (n f:Str) (g:Str→Int) (c r b u x:Int):AEnv:=("end",.num (endFo f)) :: E8 n f g c r b u x
def wellI (l:List Int) (a s:Int):List AV:=[.ints l,.sym a,.sym s]
def wellS (l:List Int) (a s:Int):SL:=[.own (.lst (wellI l a s))]
abbrev Mx:Int:=2147483647
def drawP (l:List Int) (i j:Int) (ns:List Int):Prop:=(0≤i∧i<1000∧l.length<1000∧0≤j∧j<2147483648)∧(ns.length=1∨ns.length=4∨ns.length=5)∧∀ n∈ns,0<n∧n<4294967296
abbrev step45 (k i:Nat) (env:AEnv) (sl:SL):RS:=stepS c31 3 k (scopeAt 45) (evalS c31 3 (scopeAt 45) k) env (stAt (bodyAt 45) i) sl
theorem s45_0 (n f:Str) (g:Str→Int) (l:List Int) (a s:Int):step45 59 0 (E0 n f g) (wellS l a s)=.need (drawP l a s [Mx]) (.need (drawP l (a+1) (drawS l a s) [Mx])
  (.ret (.nxt,E1 n f g ((drawV l a s).fmod Mx) ((drawV l (a+1) (drawS l a s)).fmod Mx),wellS l (a+1+1) (drawS l (a+1) (drawS l a s))))):=by kernel_rfl
theorem by7 {Q:Str→Prop} (h1:Q "I") (h2:Q "H") (h3:Q "S") (h4:Q "B") (h5:Q "U") (h6:Q "J") (h7:Q "F"):∀ f∈immForms,Q f:=by
 intro f hf
 simp only [immForms,List.mem_cons,List.not_mem_nil,or_false] at hf
 rcases hf with q | q | q | q | q | q | q<;>(rw [q]; assumption)
theorem s45_1 (n:Str) (g:Str→Int) (c r:Int) (sl:SL):∀ f∈immForms,step45 58 1 (E1 n f g c r) sl=.need (c.natAbs<2 ^ 64) (.ret (.nxt,E2 n f g c r (c*2+r.fmod 2),sl)):=
 by7 (by kernel_rfl) (by kernel_rfl) (by kernel_rfl) (by kernel_rfl) (by kernel_rfl) (by kernel_rfl) (by kernel_rfl)
theorem s45_2 (n:Str) (g:Str→Int) (c r b:Int) (sl:SL):∀ f∈immForms,step45 57 2 (E2 n f g c r b) sl=.ret (.nxt,E3 n f g c r b,sl):=
 by7 (by kernel_rfl) (by kernel_rfl) (by kernel_rfl) (by kernel_rfl) (by kernel_rfl) (by kernel_rfl) (by kernel_rfl)
def dueR (f:Str) (v:Int):R AV:=laidX ([drF f,.dS ["i"] [.sym v]].map sy)
theorem s45_3 (n:Str) (g:Str→Int) (c r b:Int) (sl:SL):∀ f∈immForms,step45 56 3 (E3 n f g c r b) sl=.need (okI (dueR f (g "imm"))) (.ret (.nxt,E4 n f g c r b (valI (dueR f (g "imm"))),sl)):=
 by7 (by kernel_rfl) (by kernel_rfl) (by kernel_rfl) (by kernel_rfl) (by kernel_rfl) (by kernel_rfl) (by kernel_rfl)
def chgR (f:Str) (b v:Int):R AV:=withX ([.sym b,.str f,.sym v].map sy)
theorem s45_4 (n:Str) (g:Str→Int) (c r b u:Int) (sl:SL):∀ f∈immForms,step45 55 4 (E4 n f g c r b u) sl=.need (okI (chgR f b (g "imm"))) (.ret (.nxt,E5 n f g c r b u (valI (chgR f b (g "imm"))),sl)):=
 by7 (by kernel_rfl) (by kernel_rfl) (by kernel_rfl) (by kernel_rfl) (by kernel_rfl) (by kernel_rfl) (by kernel_rfl)
def retF (env:AEnv) (sl:SL):RS:=.ret (.ret (.bool false),env,sl)
def bitR (f:Str) (v:Int):R AV:=bitsX ([.str f,.sym v].map sy)
theorem s45_5 (n:Str) (g:Str→Int) (c r b u x:Int) (sl:SL):∀ f∈immForms,step45 54 5 (E5 n f g c r b u x) sl =
  .need (okI (bitR f (g "imm"))) (.need (true=true) (.need ((!(valI (bitR f (g "imm"))==u))=false→true=true∧True)
   (.ite ((!(valI (bitR f (g "imm"))==u))||!(x==b - Builtin.bitAnd b (maskF f)+u)) (retF (E5 n f g c r b u x) sl) (.ret (.nxt,E5 n f g c r b u x,sl))))):=
 by7 (by kernel_rfl) (by kernel_rfl) (by kernel_rfl) (by kernel_rfl) (by kernel_rfl) (by kernel_rfl) (by kernel_rfl)
theorem s45_6 (n:Str) (g:Str→Int) (c r b u x:Int) (sl:SL):∀ f∈immForms,step45 53 6 (E5 n f g c r b u x) sl =
  .need (0≤x∧x<4294967296) (.need (true=true) (.need ((!(immV f x==g "imm"))=false→(0≤b∧b<4294967296)∧drF f=drF f∧(0≤b∧b<4294967296)∧true=true∧True)
   (.ite ((!(immV f x==g "imm"))||!(immV f b==fieldV f b "imm")) (retF (E5 n f g c r b u x) sl) (.ret (.nxt,E5 n f g c r b u x,sl))))):=
 by7 (by kernel_rfl) (by kernel_rfl) (by kernel_rfl) (by kernel_rfl) (by kernel_rfl) (by kernel_rfl) (by kernel_rfl)
theorem s45_7 (n:Str) (g:Str→Int) (c r b u x:Int) (sl:SL):∀ f∈immForms,step45 52 7 (E5 n f g c r b u x) sl=.ret (.nxt,E7 n f g c r b u x,sl):=
 by7 (by kernel_rfl) (by kernel_rfl) (by kernel_rfl) (by kernel_rfl) (by kernel_rfl) (by kernel_rfl) (by kernel_rfl)
theorem s45_8 (n:Str) (g:Str→Int) (c r b u x:Int) (sl:SL):∀ f∈immForms,step45 51 8 (E7 n f g c r b u x) sl=.ret (.nxt,E8 n f g c r b u x,sl):=
 by7 (by kernel_rfl) (by kernel_rfl) (by kernel_rfl) (by kernel_rfl) (by kernel_rfl) (by kernel_rfl) (by kernel_rfl)
theorem s45_9 (n:Str) (g:Str→Int) (c r b u x:Int) (sl:SL):∀ f∈immForms,step45 50 9 (E8 n f g c r b u x) sl=.ret (.nxt,E9 n f g c r b u x,sl):=
 by7 (by kernel_rfl) (by kernel_rfl) (by kernel_rfl) (by kernel_rfl) (by kernel_rfl) (by kernel_rfl) (by kernel_rfl)
end
end Mine
end
section
open PySem.SeqAt MineH
namespace Mine
section
variable {prog:Program} {w:World} {h:Heap}
def b45:List Stmt:=(forP (stAt (bodyAt 45) 10)).2.2.1
abbrev f45:Expr×Expr×List Stmt×Pos:=forP (stAt (bodyAt 45) 10)
def edgesF (f:Str):List (Int×Bool):=(leastF f - 1,false) :: (leastF f,true) :: (endFo f - 1,paceF f==1) :: [(endFo f,false)]
def edges2 (f:Str):List (Int×Bool):=match paceF f==2 with | true=>[(leastF f - 2,false),(endFo f - 2,true),(endFo f+2,false)] | false=>[]
def itemsE (f:Str) (r:Int):List AV:=(edgesF f).map (fun p=>.num p.1)++[.sym r]++(edges2 f).map (fun p=>.num p.1)
theorem iter45 (n:Str) (g:Str→Int) (c r b u x:Int) (sl:SL):∀ f∈immForms,evalE c31 3 49 (scopeAt 45) (E9 n f g c r b u x) f45.2.1 sl=.ret (none,.lst (itemsE f r)):=
 by7 (by kernel_rfl) (by kernel_rfl) (by kernel_rfl) (by kernel_rfl) (by kernel_rfl) (by kernel_rfl) (by kernel_rfl)
theorem st45_10:stAt (bodyAt 45) 10=.For f45.1 f45.2.1 b45 [] f45.2.2.2:=by kernel_rfl
def fitR (n:Str) (e:AV):R AV:=fitsX ([.str n,e].map sy)
def refR (n:Str) (o:AV):R AV:=refX ([.str n,o].map sy)
def encR (n:Str) (o:AV):R AV:=encN ([.str n,o].map sy)
def ET (n f:Str) (g:Str→Int) (c r b u x:Int) (o h e:AV):AEnv:=("has_room",h) :: ("other",o) :: ("edge",e) :: E9 n f g c r b u x
def decB (i:Int) (n:Str) (o:AV):Bool:=!(eqN (und (decV i rowsF)) (und (.tup [.str n,o]))).getD false
def decP (i:Int) (n:Str) (o:AV):Prop:=(eqN (und (decV i rowsF)) (und (.tup [.str n,o]))).isSome=true
def edgeT (n:Str) (o e:AV) (hr:Bool) (env:AEnv) (sl:SL):RS:=
 .need (okB (fitR n e)) (.need (true=true) (.need ((!(valB (fitR n e)==hr))=false→okB (refR n o)∧true=true∧True)
  (.ite ((!(valB (fitR n e)==hr))||(valB (refR n o)==hr)) (retF env sl)
   (match hr with
    | true=>.need (okI (encR n o)) (.need (0≤valI (encR n o)∧valI (encR n o)<4294967296) (.need (decP (valI (encR n o)) n o) (.ite (decB (valI (encR n o)) n o) (retF env sl) (.ret (.nxt,env,sl)))))
    | false=>.ret (.nxt,env,sl)))))
def hrF (f:Str) (r:Int):Bool:=(decide (leastF f≤r)&&decide (r<endFo f))&&(r.fmod (paceF f)==0)
def edgeU (n:Str) (o e:AV) (hr:Bool) (env:AEnv) (sl:SL):RS:=
 .need (okB (fitR n e)) (.need (true=true) (.need ((!(valB (fitR n e)==hr))=false→okB (refR n o)∧true=true∧True)
  (.ite ((!(valB (fitR n e)==hr))||(valB (refR n o)==hr)) (retF env sl)
   (.need (hr=true→okI (encR n o)∧(0≤valI (encR n o)∧valI (encR n o)<4294967296)∧decP (valI (encR n o)) n o∧True) (.ite (hr&&decB (valI (encR n o)) n o) (retF env sl) (.ret (.nxt,env,sl)))))))
abbrev turn45 (env:AEnv) (sl:SL):RS:=evalS c31 3 (scopeAt 45) 49 env b45 sl
def EdgeOk (n f:Str) (g:Str→Int) (c r b u x:Int) (sl:SL) (p:Int×Bool):Prop:=
 turn45 (("edge",.num p.1) :: E9 n f g c r b u x) sl=edgeT n (withA f g (.num p.1)) (.num p.1) p.2 (ET n f g c r b u x (withA f g (.num p.1)) (.bool p.2) (.num p.1)) sl ∧
 ∀ o h,turn45 (("edge",.num p.1) :: ("has_room",h) :: ("other",o) :: E9 n f g c r b u x) sl=edgeT n (withA f g (.num p.1)) (.num p.1) p.2 (ET n f g c r b u x (withA f g (.num p.1)) (.bool p.2) (.num p.1)) sl
def FarOk (n f:Str) (g:Str→Int) (c r b u x:Int) (sl:SL):Prop:=∀ o h,turn45 (("edge",.sym r) :: ("has_room",h) :: ("other",o) :: E9 n f g c r b u x) sl =
  .need (decide (leastF f≤r)=true→True) (.need ((decide (leastF f≤r)&&decide (r<endFo f))=true→(true=true∧True)) (edgeU n (withA f g (.sym r)) (.sym r) (hrF f r) (ET n f g c r b u x (withA f g (.sym r)) (.sb (hrF f r)) (.sym r)) sl))
def AllE (n f:Str) (g:Str→Int) (c r b u x:Int) (sl:SL):List (Int×Bool)→Prop
 | []=>True
 | p :: l=>EdgeOk n f g c r b u x sl p∧AllE n f g c r b u x sl l
theorem edges_I (n:Str) (g:Str→Int) (c r b u x:Int) (sl:SL):AllE n "I" g c r b u x sl [(-2049,false),(-2048,true),(2047,true),(2048,false)]:=⟨⟨by kernel_rfl,fun o h=>by kernel_rfl⟩,⟨⟨by kernel_rfl,fun o h=>by kernel_rfl⟩,⟨⟨by kernel_rfl,fun o h=>by kernel_rfl⟩,⟨⟨by kernel_rfl,fun o h=>by kernel_rfl⟩,trivial⟩⟩⟩⟩
theorem far_I (n:Str) (g:Str→Int) (c r b u x:Int) (sl:SL):FarOk n "I" g c r b u x sl:=fun o h=>by kernel_rfl
theorem el_I:edgesF "I" = [(-2049,false),(-2048,true),(2047,true),(2048,false)]∧edges2 "I" = []:=⟨by kernel_rfl,by kernel_rfl⟩
theorem edges_H (n:Str) (g:Str→Int) (c r b u x:Int) (sl:SL):AllE n "H" g c r b u x sl [(-1,false),(0,true),(31,true),(32,false)]:=⟨⟨by kernel_rfl,fun o h=>by kernel_rfl⟩,⟨⟨by kernel_rfl,fun o h=>by kernel_rfl⟩,⟨⟨by kernel_rfl,fun o h=>by kernel_rfl⟩,⟨⟨by kernel_rfl,fun o h=>by kernel_rfl⟩,trivial⟩⟩⟩⟩
theorem far_H (n:Str) (g:Str→Int) (c r b u x:Int) (sl:SL):FarOk n "H" g c r b u x sl:=fun o h=>by kernel_rfl
theorem el_H:edgesF "H" = [(-1,false),(0,true),(31,true),(32,false)]∧edges2 "H" = []:=⟨by kernel_rfl,by kernel_rfl⟩
theorem edges_S (n:Str) (g:Str→Int) (c r b u x:Int) (sl:SL):AllE n "S" g c r b u x sl [(-2049,false),(-2048,true),(2047,true),(2048,false)]:=⟨⟨by kernel_rfl,fun o h=>by kernel_rfl⟩,⟨⟨by kernel_rfl,fun o h=>by kernel_rfl⟩,⟨⟨by kernel_rfl,fun o h=>by kernel_rfl⟩,⟨⟨by kernel_rfl,fun o h=>by kernel_rfl⟩,trivial⟩⟩⟩⟩
theorem far_S (n:Str) (g:Str→Int) (c r b u x:Int) (sl:SL):FarOk n "S" g c r b u x sl:=fun o h=>by kernel_rfl
theorem el_S:edgesF "S" = [(-2049,false),(-2048,true),(2047,true),(2048,false)]∧edges2 "S" = []:=⟨by kernel_rfl,by kernel_rfl⟩
theorem edges_B (n:Str) (g:Str→Int) (c r b u x:Int) (sl:SL):AllE n "B" g c r b u x sl [(-4097,false),(-4096,true),(4095,false),(4096,false),(-4098,false),(4094,true),(4098,false)]:=⟨⟨by kernel_rfl,fun o h=>by kernel_rfl⟩,⟨⟨by kernel_rfl,fun o h=>by kernel_rfl⟩,⟨⟨by kernel_rfl,fun o h=>by kernel_rfl⟩,⟨⟨by kernel_rfl,fun o h=>by kernel_rfl⟩,⟨⟨by kernel_rfl,fun o h=>by kernel_rfl⟩,⟨⟨by kernel_rfl,fun o h=>by kernel_rfl⟩,⟨⟨by kernel_rfl,fun o h=>by kernel_rfl⟩,trivial⟩⟩⟩⟩⟩⟩⟩
theorem far_B (n:Str) (g:Str→Int) (c r b u x:Int) (sl:SL):FarOk n "B" g c r b u x sl:=fun o h=>by kernel_rfl
theorem el_B:edgesF "B" = [(-4097,false),(-4096,true),(4095,false),(4096,false)]∧edges2 "B" = [(-4098,false),(4094,true),(4098,false)]:=⟨by kernel_rfl,by kernel_rfl⟩
theorem edges_U (n:Str) (g:Str→Int) (c r b u x:Int) (sl:SL):AllE n "U" g c r b u x sl [(-1,false),(0,true),(1048575,true),(1048576,false)]:=⟨⟨by kernel_rfl,fun o h=>by kernel_rfl⟩,⟨⟨by kernel_rfl,fun o h=>by kernel_rfl⟩,⟨⟨by kernel_rfl,fun o h=>by kernel_rfl⟩,⟨⟨by kernel_rfl,fun o h=>by kernel_rfl⟩,trivial⟩⟩⟩⟩
theorem far_U (n:Str) (g:Str→Int) (c r b u x:Int) (sl:SL):FarOk n "U" g c r b u x sl:=fun o h=>by kernel_rfl
theorem el_U:edgesF "U" = [(-1,false),(0,true),(1048575,true),(1048576,false)]∧edges2 "U" = []:=⟨by kernel_rfl,by kernel_rfl⟩
theorem edges_J (n:Str) (g:Str→Int) (c r b u x:Int) (sl:SL):AllE n "J" g c r b u x sl [(-1048577,false),(-1048576,true),(1048575,false),(1048576,false),(-1048578,false),(1048574,true),(1048578,false)]:=⟨⟨by kernel_rfl,fun o h=>by kernel_rfl⟩,⟨⟨by kernel_rfl,fun o h=>by kernel_rfl⟩,⟨⟨by kernel_rfl,fun o h=>by kernel_rfl⟩,⟨⟨by kernel_rfl,fun o h=>by kernel_rfl⟩,⟨⟨by kernel_rfl,fun o h=>by kernel_rfl⟩,⟨⟨by kernel_rfl,fun o h=>by kernel_rfl⟩,⟨⟨by kernel_rfl,fun o h=>by kernel_rfl⟩,trivial⟩⟩⟩⟩⟩⟩⟩
theorem far_J (n:Str) (g:Str→Int) (c r b u x:Int) (sl:SL):FarOk n "J" g c r b u x sl:=fun o h=>by kernel_rfl
theorem el_J:edgesF "J" = [(-1048577,false),(-1048576,true),(1048575,false),(1048576,false)]∧edges2 "J" = [(-1048578,false),(1048574,true),(1048578,false)]:=⟨by kernel_rfl,by kernel_rfl⟩
theorem edges_F (n:Str) (g:Str→Int) (c r b u x:Int) (sl:SL):AllE n "F" g c r b u x sl [(-1,false),(0,true),(255,true),(256,false)]:=⟨⟨by kernel_rfl,fun o h=>by kernel_rfl⟩,⟨⟨by kernel_rfl,fun o h=>by kernel_rfl⟩,⟨⟨by kernel_rfl,fun o h=>by kernel_rfl⟩,⟨⟨by kernel_rfl,fun o h=>by kernel_rfl⟩,trivial⟩⟩⟩⟩
theorem far_F (n:Str) (g:Str→Int) (c r b u x:Int) (sl:SL):FarOk n "F" g c r b u x sl:=fun o h=>by kernel_rfl
theorem el_F:edgesF "F" = [(-1,false),(0,true),(255,true),(256,false)]∧edges2 "F" = []:=⟨by kernel_rfl,by kernel_rfl⟩
theorem fars (n:Str) (g:Str→Int) (c r b u x:Int) (sl:SL):∀ f∈immForms,FarOk n f g c r b u x sl:=
 by7 (far_I n g c r b u x sl) (far_H n g c r b u x sl) (far_S n g c r b u x sl) (far_B n g c r b u x sl) (far_U n g c r b u x sl) (far_J n g c r b u x sl) (far_F n g c r b u x sl)
theorem allE_mem {n f:Str} {g:Str→Int} {c r b u x:Int} {sl:SL}:∀ {l:List (Int×Bool)},AllE n f g c r b u x sl l→∀ p∈l,EdgeOk n f g c r b u x sl p
 | [],_,p,hp=>(nomatch hp)
 | q :: l,⟨h1,h2⟩,p,hp=>by
  rcases List.mem_cons.mp hp with e | e
  ·rw [e]; exact h1
  ·exact allE_mem h2 p e
theorem edges (n:Str) (g:Str→Int) (c r b u x:Int) (sl:SL):∀ f∈immForms,AllE n f g c r b u x sl (edgesF f++edges2 f):=
 by7 (by rw [el_I.1,el_I.2]; exact edges_I ..) (by rw [el_H.1,el_H.2]; exact edges_H ..) (by rw [el_S.1,el_S.2]; exact edges_S ..) (by rw [el_B.1,el_B.2]; exact edges_B ..) (by rw [el_U.1,el_U.2]; exact edges_U ..) (by rw [el_J.1,el_J.2]; exact edges_J ..) (by rw [el_F.1,el_F.2]; exact edges_F ..)
theorem bind45 (n f:Str) (g:Str→Int) (c r b u x:Int) (e:AV):bindP (scopeAt 45) f45.1 e (E9 n f g c r b u x)=some ((("edge" : Str),e) :: E9 n f g c r b u x):=by kernel_rfl
theorem bind45' (n f:Str) (g:Str→Int) (c r b u x:Int) (o h e e':AV):bindP (scopeAt 45) f45.1 e (ET n f g c r b u x o h e')=some ((("edge" : Str),e) :: ("has_room",h) :: ("other",o) :: E9 n f g c r b u x):=by kernel_rfl
theorem s45_11 (n:Str) (g:Str→Int) (c r b u x:Int) (o h e:AV) (sl:SL):∀ f∈immForms,evalS c31 3 (scopeAt 45) 49 (ET n f g c r b u x o h e) [stAt (bodyAt 45) 11] sl=.need (okB (refR n (dropA f g "imm"))) (.ret (.ret (.sb (valB (refR n (dropA f g "imm")))),ET n f g c r b u x o h e,sl)):=
 by7 (by kernel_rfl) (by kernel_rfl) (by kernel_rfl) (by kernel_rfl) (by kernel_rfl) (by kernel_rfl) (by kernel_rfl)
theorem body45:bodyAt 45=[stAt (bodyAt 45) 0,stAt (bodyAt 45) 1,stAt (bodyAt 45) 2,stAt (bodyAt 45) 3,stAt (bodyAt 45) 4,stAt (bodyAt 45) 5,stAt (bodyAt 45) 6,stAt (bodyAt 45) 7,stAt (bodyAt 45) 8,stAt (bodyAt 45) 9,.For f45.1 f45.2.1 b45 [] f45.2.2.2,stAt (bodyAt 45) 11]:=by kernel_rfl
end
end Mine
end
section
open PySem.SeqAt MineH
namespace Mine
section
variable {prog:Program} {w:World} {h:Heap}
theorem hx_unbind {α β:Type} {P:β→Prop} {X:Prop} {f:α→R β} {x:R α} (h:HX (x.bind f) P X):HX x (fun a=>HX (f a) P X) X:=⟨R.holds_mono (fun _ q=>⟨q⟩) id (R.holds_bind h.out)⟩
def instrK:List Str:=(dS? g_INSTRUCTIONS).1
def instrV:List AV:=(dS? g_INSTRUCTIONS).2
def st25 (i:Nat):Stmt:=stAt (bodyAt 25) i
def rest25:List Stmt:=[st25 2,st25 3,st25 4,st25 5]
theorem body25:bodyAt 25=st25 0 :: st25 1 :: rest25:=by kernel_rfl
def encE0 (n:Str) (F:AV):AEnv:=[("name",.str n),("fields",F)]
def encE2 (n f:Str) (base:Int) (F:AV):AEnv:=[("found",.num base),("form",.str f),("name",.str n),("fields",F)]
def raise0 (n:Str) (F:AV):RS:=match st25 0 with | .If _ b _ _=>evalS cX 1 (scopeAt 25) 59 (encE0 n F) b [] | _=>.fail
theorem enc_0 (n:Str) (F:AV):stepS cX 1 59 (scopeAt 25) (evalS cX 1 (scopeAt 25) 59) (encE0 n F) (st25 0) []=(match !memS n instrK with | true=>raise0 n F | false=>.ret (.nxt,encE0 n F,[])):=by kernel_rfl
def val25:Expr:=match st25 1 with | .Assign _ v _=>v | _=>.Name "" ⟨0,0,0,0⟩
def tgt25:Expr:=match st25 1 with | .Assign (t :: _) _ _=>t | _=>.Name "" ⟨0,0,0,0⟩
theorem enc_1 (n:Str) (F:AV):stepS cX 1 58 (scopeAt 25) (evalS cX 1 (scopeAt 25) 58) (encE0 n F) (st25 1) []=(evalE cX 1 58 (scopeAt 25) (encE0 n F) val25 []).bind fun p=>(match bindP (scopeAt 25) tgt25 p.2 (encE0 n F) with | some env'=>.ret (.nxt,env',p.1.getD []) | none=>.fail):=by kernel_rfl
theorem enc_1v (n:Str) (F:AV):evalE cX 1 58 (scopeAt 25) (encE0 n F) val25 []=pureE (itemA [] (.dS instrK instrV) (.str n)):=by kernel_rfl
theorem enc_1b (n f:Str) (base:Int) (F:AV):bindP (scopeAt 25) tgt25 (.tup [.str f,.num base]) (encE0 n F)=some (encE2 n f base F):=by kernel_rfl
theorem item_instr {n:Str} {v:AV} (hl:lookS instrK instrV n=some v):itemA [] (.dS instrK instrV) (.str n)=.ret v:=by
 show (match lookS instrK instrV n with | some v=>R.ret v | none=>R.fail)=_
 rw [hl]
def encRest (n f:Str) (base:Int) (F:AV):R AV:=(evalS cX 1 (scopeAt 25) 58 (encE2 n f base F) rest25 []).bind endF
theorem enc_of {n f:Str} {base:Int} {F:AV} {P:AV→Prop} {X:Prop} (hm:memS n instrK=true) (hl:lookS instrK instrV n=some (.tup [.str f,.num base])) (hh:HX (encRest n f base F) P X):HX (encX [.str n,F]) P X:=by
 show HX ((evalS cX 1 (scopeAt 25) 60 (encE0 n F) (bodyAt 25) []).bind endF) P X
 refine hx_bind ?_
 rw [body25]
 refine cons_of ?_
 rw [enc_0,hm]
 refine hx_ret (cons_of ?_)
 rw [enc_1,enc_1v,item_instr hl]
 refine hx_ret ?_
 show HX (nextS cX 1 58 (scopeAt 25) rest25 (.nxt,encE2 n f base F,[])) _ X
 exact hx_unbind hh
def plF (f:Str):List (Str×Int):=match f==("R" : Str) with
 | true=>[("rd",7),("rs1",15),("rs2",20)]
 | false=>match memS f ["I","H"] with
  | true=>[("rd",7),("rs1",15)]
  | false=>match memS f ["S","B"] with
   | true=>[("rs1",15),("rs2",20)]
   | false=>match memS f ["U","J"] with
    | true=>[("rd",7)]
    | false=>[]
def excT (k:Str):R AV:=.need (("no register for " : Str).length+k.length≤16777216) .exc
def placeT (g:Str→Int):List (Str×Int)→AV→(AV→R AV)→R AV
 | [],a,K=>K a
 | (k,s) :: l,a,K=>.need (decide (0≤g k)=true→True) (.ite (!(decide (0≤g k)&&decide (g k<32))) (excT k) (.need ((g k).natAbs<2 ^ 64) (placeT g l (.sym (Builtin.bitOr (match intOf a with | some (i,_)=>i | none=>0) (g k*2 ^ s.toNat))) K)))
def excI (n:Str):R AV:=.need (("a number that " : Str).length+n.length≤16777216) (.need ((("a number that " : Str)++n).length+(" can't hold" : Str).length≤16777216) .exc)
def immT (n f:Str) (v:Int) (a:AV):R AV:=.need (okB (fitR n (.sym v))) (.ite (!valB (fitR n (.sym v))) (excI n) ((bitsX [.str f,.sym v]).bind fun b=>binA .BitOr a b))
def tailT (n f:Str) (v:Int) (a:AV):R AV:=match memS f immForms with
 | true=>immT n f v a
 | false=>.ret a
def dKs (ks:List Str) (g:Str→Int):AV:=.dS ks (ks.map fun k=>.sym (g k))
def wrongA (f:Str) (g:Str→Int) (key:Str):AV:=dKs ((keysF f).filter (fun k=>!(k==key))++[key]) g
def placeD (d:Str) (g:Str→Int):List (Str×Int)→AV→R AV
 | [],_=>.fail
 | (k,s) :: l,a=>match k==d with
  | true=>excT k
  | false=>.need (decide (0≤g k)=true→True) (.ite (!(decide (0≤g k)&&decide (g k<32))) (excT k) (.need ((g k).natAbs<2 ^ 64) (placeD d g l (.sym (Builtin.bitOr (match intOf a with | some (i,_)=>i | none=>0) (g k*2 ^ s.toNat))))))
theorem encR_R (n:Str) (b:Int) (g:Str→Int):encRest n "R" b (fieldsA "R" g)=placeT g (plF "R") (.num b) (tailT n "R" (g "imm")):=by kernel_rfl
theorem encR_I (n:Str) (b:Int) (g:Str→Int):encRest n "I" b (fieldsA "I" g)=placeT g (plF "I") (.num b) (tailT n "I" (g "imm")):=by kernel_rfl
theorem encR_H (n:Str) (b:Int) (g:Str→Int):encRest n "H" b (fieldsA "H" g)=placeT g (plF "H") (.num b) (tailT n "H" (g "imm")):=by kernel_rfl
theorem encR_S (n:Str) (b:Int) (g:Str→Int):encRest n "S" b (fieldsA "S" g)=placeT g (plF "S") (.num b) (tailT n "S" (g "imm")):=by kernel_rfl
theorem encR_B (n:Str) (b:Int) (g:Str→Int):encRest n "B" b (fieldsA "B" g)=placeT g (plF "B") (.num b) (tailT n "B" (g "imm")):=by kernel_rfl
theorem encR_U (n:Str) (b:Int) (g:Str→Int):encRest n "U" b (fieldsA "U" g)=placeT g (plF "U") (.num b) (tailT n "U" (g "imm")):=by kernel_rfl
theorem encR_J (n:Str) (b:Int) (g:Str→Int):encRest n "J" b (fieldsA "J" g)=placeT g (plF "J") (.num b) (tailT n "J" (g "imm")):=by kernel_rfl
theorem encR_F (n:Str) (b:Int) (g:Str→Int):encRest n "F" b (fieldsA "F" g)=placeT g (plF "F") (.num b) (tailT n "F" (g "imm")):=by kernel_rfl
theorem encR_E (n:Str) (b:Int) (g:Str→Int):encRest n "E" b (fieldsA "E" g)=placeT g (plF "E") (.num b) (tailT n "E" (g "imm")):=by kernel_rfl
theorem encW_R_rd (n:Str) (b:Int) (g:Str→Int):encRest n "R" b (wrongA "R" g "rd")=placeT g (plF "R") (.num b) (tailT n "R" (g "imm")):=by kernel_rfl
theorem encD_R_rd (n:Str) (b:Int) (g:Str→Int):encRest n "R" b (dropA "R" g "rd")=placeD "rd" g (plF "R") (.num b):=by kernel_rfl
theorem encW_R_rs1 (n:Str) (b:Int) (g:Str→Int):encRest n "R" b (wrongA "R" g "rs1")=placeT g (plF "R") (.num b) (tailT n "R" (g "imm")):=by kernel_rfl
theorem encD_R_rs1 (n:Str) (b:Int) (g:Str→Int):encRest n "R" b (dropA "R" g "rs1")=placeD "rs1" g (plF "R") (.num b):=by kernel_rfl
theorem encW_R_rs2 (n:Str) (b:Int) (g:Str→Int):encRest n "R" b (wrongA "R" g "rs2")=placeT g (plF "R") (.num b) (tailT n "R" (g "imm")):=by kernel_rfl
theorem encD_R_rs2 (n:Str) (b:Int) (g:Str→Int):encRest n "R" b (dropA "R" g "rs2")=placeD "rs2" g (plF "R") (.num b):=by kernel_rfl
theorem encW_I_rd (n:Str) (b:Int) (g:Str→Int):encRest n "I" b (wrongA "I" g "rd")=placeT g (plF "I") (.num b) (tailT n "I" (g "imm")):=by kernel_rfl
theorem encD_I_rd (n:Str) (b:Int) (g:Str→Int):encRest n "I" b (dropA "I" g "rd")=placeD "rd" g (plF "I") (.num b):=by kernel_rfl
theorem encW_I_rs1 (n:Str) (b:Int) (g:Str→Int):encRest n "I" b (wrongA "I" g "rs1")=placeT g (plF "I") (.num b) (tailT n "I" (g "imm")):=by kernel_rfl
theorem encD_I_rs1 (n:Str) (b:Int) (g:Str→Int):encRest n "I" b (dropA "I" g "rs1")=placeD "rs1" g (plF "I") (.num b):=by kernel_rfl
theorem encD_I_imm (n:Str) (b:Int) (g:Str→Int):encRest n "I" b (dropA "I" g "imm")=placeT g (plF "I") (.num b) (fun _=>excI n):=by kernel_rfl
theorem encW_H_rd (n:Str) (b:Int) (g:Str→Int):encRest n "H" b (wrongA "H" g "rd")=placeT g (plF "H") (.num b) (tailT n "H" (g "imm")):=by kernel_rfl
theorem encD_H_rd (n:Str) (b:Int) (g:Str→Int):encRest n "H" b (dropA "H" g "rd")=placeD "rd" g (plF "H") (.num b):=by kernel_rfl
theorem encW_H_rs1 (n:Str) (b:Int) (g:Str→Int):encRest n "H" b (wrongA "H" g "rs1")=placeT g (plF "H") (.num b) (tailT n "H" (g "imm")):=by kernel_rfl
theorem encD_H_rs1 (n:Str) (b:Int) (g:Str→Int):encRest n "H" b (dropA "H" g "rs1")=placeD "rs1" g (plF "H") (.num b):=by kernel_rfl
theorem encD_H_imm (n:Str) (b:Int) (g:Str→Int):encRest n "H" b (dropA "H" g "imm")=placeT g (plF "H") (.num b) (fun _=>excI n):=by kernel_rfl
theorem encW_S_rs1 (n:Str) (b:Int) (g:Str→Int):encRest n "S" b (wrongA "S" g "rs1")=placeT g (plF "S") (.num b) (tailT n "S" (g "imm")):=by kernel_rfl
theorem encD_S_rs1 (n:Str) (b:Int) (g:Str→Int):encRest n "S" b (dropA "S" g "rs1")=placeD "rs1" g (plF "S") (.num b):=by kernel_rfl
theorem encW_S_rs2 (n:Str) (b:Int) (g:Str→Int):encRest n "S" b (wrongA "S" g "rs2")=placeT g (plF "S") (.num b) (tailT n "S" (g "imm")):=by kernel_rfl
theorem encD_S_rs2 (n:Str) (b:Int) (g:Str→Int):encRest n "S" b (dropA "S" g "rs2")=placeD "rs2" g (plF "S") (.num b):=by kernel_rfl
theorem encD_S_imm (n:Str) (b:Int) (g:Str→Int):encRest n "S" b (dropA "S" g "imm")=placeT g (plF "S") (.num b) (fun _=>excI n):=by kernel_rfl
theorem encW_B_rs1 (n:Str) (b:Int) (g:Str→Int):encRest n "B" b (wrongA "B" g "rs1")=placeT g (plF "B") (.num b) (tailT n "B" (g "imm")):=by kernel_rfl
theorem encD_B_rs1 (n:Str) (b:Int) (g:Str→Int):encRest n "B" b (dropA "B" g "rs1")=placeD "rs1" g (plF "B") (.num b):=by kernel_rfl
theorem encW_B_rs2 (n:Str) (b:Int) (g:Str→Int):encRest n "B" b (wrongA "B" g "rs2")=placeT g (plF "B") (.num b) (tailT n "B" (g "imm")):=by kernel_rfl
theorem encD_B_rs2 (n:Str) (b:Int) (g:Str→Int):encRest n "B" b (dropA "B" g "rs2")=placeD "rs2" g (plF "B") (.num b):=by kernel_rfl
theorem encD_B_imm (n:Str) (b:Int) (g:Str→Int):encRest n "B" b (dropA "B" g "imm")=placeT g (plF "B") (.num b) (fun _=>excI n):=by kernel_rfl
theorem encW_U_rd (n:Str) (b:Int) (g:Str→Int):encRest n "U" b (wrongA "U" g "rd")=placeT g (plF "U") (.num b) (tailT n "U" (g "imm")):=by kernel_rfl
theorem encD_U_rd (n:Str) (b:Int) (g:Str→Int):encRest n "U" b (dropA "U" g "rd")=placeD "rd" g (plF "U") (.num b):=by kernel_rfl
theorem encD_U_imm (n:Str) (b:Int) (g:Str→Int):encRest n "U" b (dropA "U" g "imm")=placeT g (plF "U") (.num b) (fun _=>excI n):=by kernel_rfl
theorem encW_J_rd (n:Str) (b:Int) (g:Str→Int):encRest n "J" b (wrongA "J" g "rd")=placeT g (plF "J") (.num b) (tailT n "J" (g "imm")):=by kernel_rfl
theorem encD_J_rd (n:Str) (b:Int) (g:Str→Int):encRest n "J" b (dropA "J" g "rd")=placeD "rd" g (plF "J") (.num b):=by kernel_rfl
theorem encD_J_imm (n:Str) (b:Int) (g:Str→Int):encRest n "J" b (dropA "J" g "imm")=placeT g (plF "J") (.num b) (fun _=>excI n):=by kernel_rfl
theorem encD_F_imm (n:Str) (b:Int) (g:Str→Int):encRest n "F" b (dropA "F" g "imm")=placeT g (plF "F") (.num b) (fun _=>excI n):=by kernel_rfl
theorem exc_hx {k:Str} (h:k.length≤1000) {P:AV→Prop} {X:Prop} (hX:X):HX (excT k) P X:=by
 refine hx_need ?_ ⟨hX⟩
 have:("no register for " : Str).length=16:=by decide +kernel
 omega
theorem excI_hx {n:Str} (h:n.length≤1000) {P:AV→Prop} {X:Prop} (hX:X):HX (excI n) P X:=by
 have h1:("a number that " : Str).length=14:=by decide +kernel
 have h2:(" can't hold" : Str).length=11:=by decide +kernel
 have h3:(("a number that " : Str)++n).length=14+n.length:=by rw [← h1]; exact Array.size_append
 refine hx_need (by omega) (hx_need (by omega) ⟨hX⟩)
theorem placeT_exc {g:Str→Int} {K:AV→R AV}:∀ {l:List (Str×Int)} {a:AV},(∀ p∈l,p.1.length≤1000)→(∃ p∈l,¬ (0≤g p.1∧g p.1<32))→HX (placeT g l a K) (fun _=>False) True
 | [],_,_,⟨p,hp,_⟩=>(nomatch hp)
 | (k,s) :: l,a,hl,hw=>by
  refine hx_need (fun _=>trivial) (hx_ite (fun _=>exc_hx (hl (k,s) (by simp)) trivial) fun e=>?_)
  have hv:0≤g k∧g k<32:=by simpa using e
  refine hx_need (by omega) (placeT_exc (fun p hp=>hl p (by simp [hp])) ?_)
  obtain ⟨p,hp,hn⟩:=hw
  rcases List.mem_cons.mp hp with q | q
  ·rw [q] at hn; exact (hn hv).elim
  ·exact ⟨p,q,hn⟩
theorem placeD_exc {d:Str} {g:Str→Int}:∀ {l:List (Str×Int)} {a:AV},(∀ p∈l,p.1.length≤1000)→(∃ p∈l,p.1=d)→HX (placeD d g l a) (fun _=>False) True
 | [],_,_,⟨p,hp,_⟩=>(nomatch hp)
 | (k,s) :: l,a,hl,hw=>by
  unfold placeD
  cases q:k==d with
  | true=>exact exc_hx (hl (k,s) (by simp)) trivial
  | false=>
   refine hx_need (fun _=>trivial) (hx_ite (fun _=>exc_hx (hl (k,s) (by simp)) trivial) fun e=>?_)
   have hv:0≤g k∧g k<32:=by simpa using e
   refine hx_need (by omega) (placeD_exc (fun p hp=>hl p (by simp [hp])) ?_)
   obtain ⟨p,hp,hn⟩:=hw
   rcases List.mem_cons.mp hp with z | z
   ·rw [z] at hn
    have hn:k=d:=hn
    rw [hn,beq_self_eq_true] at q; cases q
   ·exact ⟨p,z,hn⟩
def foldP (g:Str→Int):List (Str×Int)→AV→AV
 | [],a=>a
 | (k,s) :: l,a=>foldP g l (.sym (Builtin.bitOr (match intOf a with | some (i,_)=>i | none=>0) (g k*2 ^ s.toNat)))
theorem placeT_ok {g:Str→Int} {K:AV→R AV} {P:AV→Prop} {X:Prop}:∀ {l:List (Str×Int)} {a:AV},(∀ p∈l,0≤g p.1∧g p.1<32)→HX (K (foldP g l a)) P X→HX (placeT g l a K) P X
 | [],_,_,h=>h
 | (k,s) :: l,a,hl,h=>by
  have hv:=hl (k,s) (by simp)
  have hv:0≤g k∧g k<32:=hv
  refine hx_need (fun _=>trivial) (hx_ite (fun e=>?_) fun _=>hx_need (by omega) (placeT_ok (fun p hp=>hl p (by simp [hp])) h))
  have:(decide (0≤g k)&&decide (g k<32))=true:=by simp [hv]
  rw [this] at e; cases e
theorem catchR_of {P:AV→Prop}:∀ {x:R AV},x.Holds (fun _=>P (.bool false)) (P (.bool true))→(catchR x).Holds P False
 | .ret _,h=>h
 | .exc,h=>h
 | .ite _ _ _,⟨h1,h2⟩=>⟨fun e=>catchR_of (h1 e),fun e=>catchR_of (h2 e)⟩
 | .need _ _,⟨h1,h2⟩=>⟨h1,catchR_of h2⟩
 | .fail,h=>h
theorem ref_exc {n:Str} {F:AV} (h:HX (encX [.str n,F]) (fun _=>False) True):okB (refX [.str n,F])∧valB (refX [.str n,F])=true:=
 okB_of (b:=true) (x:=refX [.str n,F]) (catchR_of (P:=fun av=>∃ s,boolOf av=some (true,s)) (R.holds_mono (fun _ q=>q.elim) (fun _=>⟨false,rfl⟩) h.out))
theorem ref_val {n:Str} {F:AV} (h:HX (encX [.str n,F]) (fun _=>True) False):okB (refX [.str n,F])∧valB (refX [.str n,F])=false:=
 okB_of (b:=false) (x:=refX [.str n,F]) (catchR_of (P:=fun av=>∃ s,boolOf av=some (false,s)) (R.holds_mono (fun _ _=>⟨false,rfl⟩) (fun q=>q.elim) h.out))
theorem enc_val {n:Str} {F:AV} {i:Int} (h:HX (encX [.str n,F]) (fun av=>∃ s,intOf av=some (i,s)) False):okI (encN [.str n,F])∧valI (encN [.str n,F])=i:=
 okI_of (x:=encN [.str n,F]) (noX_of h.out)
theorem raise0_eq (n:Str) (F:AV):raise0 n F=.need (("no such instruction: " : Str).length+n.length≤16777216) .exc:=by kernel_rfl
theorem enc_none {n:Str} {F:AV} (hm:memS n instrK=false) (h:n.length≤1000):HX (encX [.str n,F]) (fun _=>False) True:=by
 show HX ((evalS cX 1 (scopeAt 25) 60 (encE0 n F) (bodyAt 25) []).bind endF) _ _
 refine hx_bind ?_
 rw [body25]
 refine cons_of ?_
 rw [enc_0,hm]
 show HX (raise0 n F) _ _
 rw [raise0_eq]
 refine hx_need ?_ ⟨trivial⟩
 have:("no such instruction: " : Str).length=21:=by decide +kernel
 omega
end
end Mine
end
section
open PySem.SeqAt MineH
namespace Mine
section
variable {prog:Program} {w:World} {h:Heap}
def nd (x:Int) (r:R AV):R AV:=.need (x.natAbs<2 ^ 64) r
abbrev bo (x y:Int):Int:=Builtin.bitOr x y
theorem bits_I (v:Int):bitsX [.str "I",.sym v]=nd (Builtin.bitAnd v 4095) (.ret (.sym (up (Builtin.bitAnd v 4095) 20))):=by kernel_rfl
theorem bits_H (v:Int):bitsX [.str "H",.sym v]=nd v (.ret (.sym (up v 20))):=by kernel_rfl
theorem bits_S (v:Int):bitsX [.str "S",.sym v]=nd (im v 5 127) (nd (Builtin.bitAnd v 31) (.ret (.sym (bo (up (im v 5 127) 25) (up (Builtin.bitAnd v 31) 7))))):=by kernel_rfl
theorem bits_B (v:Int):bitsX [.str "B",.sym v]=nd (im v 12 1) (nd (im v 5 63) (nd (im v 1 15) (nd (im v 11 1) (.ret (.sym (bo (bo (bo (up (im v 12 1) 31) (up (im v 5 63) 25)) (up (im v 1 15) 8)) (up (im v 11 1) 7))))))):=by kernel_rfl
theorem bits_U (v:Int):bitsX [.str "U",.sym v]=nd v (.ret (.sym (up v 12))):=by kernel_rfl
theorem bits_J (v:Int):bitsX [.str "J",.sym v]=nd (im v 20 1) (nd (im v 1 1023) (nd (im v 11 1) (nd (im v 12 255) (.ret (.sym (bo (bo (bo (up (im v 20 1) 31) (up (im v 1 1023) 21)) (up (im v 11 1) 20)) (up (im v 12 255) 12))))))):=by kernel_rfl
theorem bits_F (v:Int):bitsX [.str "F",.sym v]=nd v (.ret (.sym (up v 20))):=by kernel_rfl
theorem with_f (b v:Int):∀ f∈immForms,withX [.sym b,.str f,.sym v]=(bitsX [.str f,.sym v]).bind fun x=>binA .BitOr (.sym (Builtin.bitAnd (Builtin.bitAnd b (Builtin.bitNot (maskF f))) 4294967295)) x:=
 by7 (by kernel_rfl) (by kernel_rfl) (by kernel_rfl) (by kernel_rfl) (by kernel_rfl) (by kernel_rfl) (by kernel_rfl)
def layT:Int→List (Int×Nat)→R AV
 | a,[]=>.ret (.sym a)
 | a,(v,p) :: l=>.need (a.natAbs<2 ^ 64) (layT (a*2+bitV v p) l)
def layF:Nat→Int→List (Int×Nat)→R AV
 | 0,a,l=>layT a l
 | _+1,a,[]=>.ret (.sym a)
 | k+1,a,(v,p) :: l=>layF k (a*2+bitV v p) l
def layL (f:Str) (x y z d s t v:Int):List (Int×Nat):=match f==("R" : Str) with
 | true=>down z 0 7++down t 0 5++down s 0 5++down y 0 3++down d 0 5++down x 0 7
 | false=>match f==("I" : Str) with
  | true=>down v 0 12++down s 0 5++down y 0 3++down d 0 5++down x 0 7
  | false=>match f==("H" : Str) with
   | true=>down z 0 7++down v 0 5++down s 0 5++down y 0 3++down d 0 5++down x 0 7
   | false=>match f==("S" : Str) with
    | true=>down v 5 7++down t 0 5++down s 0 5++down y 0 3++down v 0 5++down x 0 7
    | false=>match f==("B" : Str) with
     | true=>down v 12 1++down v 5 6++down t 0 5++down s 0 5++down y 0 3++down v 1 4++down v 11 1++down x 0 7
     | false=>match f==("U" : Str) with
      | true=>down v 0 20++down d 0 5++down x 0 7
      | false=>match f==("J" : Str) with
       | true=>down v 20 1++down v 1 10++down v 11 1++down v 12 8++down d 0 5++down x 0 7
       | false=>match f==("F" : Str) with
        | true=>down z 10 4++down v 0 8++down z 5 5++down y 0 3++down z 0 5++down x 0 7
        | false=>down z 0 25++down x 0 7
def known7 (x y z d s t v:Int):AV:=.dS ["x","y","z","d","s","t","i"] [.sym x,.sym y,.sym z,.sym d,.sym s,.sym t,.sym v]
theorem by9 {Q:Str→Prop} (h0:Q "R") (h1:Q "I") (h2:Q "H") (h3:Q "S") (h4:Q "B") (h5:Q "U") (h6:Q "J") (h7:Q "F") (h8:Q "E"):∀ f∈formsL,Q f:=by
 intro f hf
 simp only [formsL,List.mem_cons,List.not_mem_nil,or_false] at hf
 rcases hf with q | q | q | q | q | q | q | q | q<;>(rw [q]; assumption)
theorem laid7 (x y z d s t v:Int):∀ f∈formsL,laidX [drF f,known7 x y z d s t v]=layF 1 0 (layL f x y z d s t v):=
 by9 (by kernel_rfl) (by kernel_rfl) (by kernel_rfl) (by kernel_rfl) (by kernel_rfl) (by kernel_rfl) (by kernel_rfl) (by kernel_rfl) (by kernel_rfl)
def freeF (f:Str):Nat:=match f==("H" : Str) with
 | true=>8
 | false=>match f==("F" : Str) with
  | true=>5
  | false=>1
theorem laid1 (v:Int):∀ f∈immForms,laidX [drF f,.dS ["i"] [.sym v]]=layF (freeF f) 0 (layL f 0 0 0 0 0 0 v):=
 by7 (by kernel_rfl) (by kernel_rfl) (by kernel_rfl) (by kernel_rfl) (by kernel_rfl) (by kernel_rfl) (by kernel_rfl)
theorem laid3 (x y z:Int):∀ f∈(["F","E"]:List Str),laidX [drF f,.dS ["x","y","z"] [.sym x,.sym y,.sym z]]=layF 1 0 (layL f x y z 0 0 0 0):=by
 intro f hf
 simp only [List.mem_cons,List.not_mem_nil,or_false] at hf
 rcases hf with q | q<;>rw [q]<;>kernel_rfl
end
end Mine
end
section
open PySem.SeqAt MineH
namespace Mine
section
variable {prog:Program} {w:World} {h:Heap}
def st20 (i:Nat):Stmt:=stAt (bodyAt 20) i
theorem body20:bodyAt 20=[st20 0,st20 1]:=by kernel_rfl
def val20:Expr:=match st20 0 with | .Assign _ v _=>v | _=>.Name "" ⟨0,0,0,0⟩
def tgt20:Expr:=match st20 0 with | .Assign (t :: _) _ _=>t | _=>.Name "" ⟨0,0,0,0⟩
def fitE (n:Str) (v:Int):AEnv:=[("name",.str n),("imm",.sym v)]
def fitE2 (n f:Str) (v:Int):AEnv:=[("by",.num (paceF f)),("most",.num (endFo f - paceF f)),("least",.num (leastF f)),("name",.str n),("imm",.sym v)]
theorem fit_0 (n:Str) (v:Int):stepS c9 0 59 (scopeAt 20) (evalS c9 0 (scopeAt 20) 59) (fitE n v) (st20 0) []=(evalE c9 0 59 (scopeAt 20) (fitE n v) val20 []).bind fun p=>(match bindP (scopeAt 20) tgt20 p.2 (fitE n v) with | some env'=>.ret (.nxt,env',p.1.getD []) | none=>.fail):=by kernel_rfl
theorem fit_0v (n:Str) (v:Int):evalE c9 0 59 (scopeAt 20) (fitE n v) val20 []=seqE (seqE (pureE (itemA [] (.dS instrK instrV) (.str n))) [] (fun a sl=>pureE (itemA sl a (.num 0)))) [] (fun b sl=>pureE (itemA sl g_BOUNDS b)):=by kernel_rfl
theorem fit_0w (n:Str) (v b:Int):∀ f∈immForms,((seqE (seqE (pureE (.ret (.tup [.str f,.num b]))) [] (fun a sl=>pureE (itemA sl a (.num 0)))) [] (fun b sl=>pureE (itemA sl g_BOUNDS b))).bind fun p=>(match bindP (scopeAt 20) tgt20 p.2 (fitE n v) with | some env'=>.ret (.nxt,env',p.1.getD []) | none=>.fail):RS)=.ret (.nxt,fitE2 n f v,[]):=
 by7 (by kernel_rfl) (by kernel_rfl) (by kernel_rfl) (by kernel_rfl) (by kernel_rfl) (by kernel_rfl) (by kernel_rfl)
def fitB (f:Str) (v:Int):Bool:=(decide (leastF f≤v)&&decide (v≤endFo f - paceF f))&&(v.fmod (paceF f)==0)
theorem fit_1 (n:Str) (v:Int):∀ f∈immForms,(evalS c9 0 (scopeAt 20) 59 (fitE2 n f v) [st20 1] []).bind endF=.need (decide (leastF f≤v)=true→True) (.need ((decide (leastF f≤v)&&decide (v≤endFo f - paceF f))=true→true=true∧True) (.ret (.sb (fitB f v)))):=
 by7 (by kernel_rfl) (by kernel_rfl) (by kernel_rfl) (by kernel_rfl) (by kernel_rfl) (by kernel_rfl) (by kernel_rfl)
def tabOk:List Int:=[]
theorem fitB_room (v:Int):∀ f∈immForms,fitB f v=hrF f v:=by
 have one:∀ (lo hi:Int),(decide (lo≤v)&&decide (v≤hi - 1)&&(v.fmod 1==0))=(decide (lo≤v)&&decide (v<hi)&&(v.fmod 1==0)):=fun lo hi=>by
  have:decide (v≤hi - 1)=decide (v<hi):=by
   by_cases q:v<hi
   ·rw [decide_eq_true q,decide_eq_true (by omega)]
   ·rw [decide_eq_false q,decide_eq_false (by omega)]
  rw [this]
 have two:∀ (lo hi:Int),hi % 2=0→(decide (lo≤v)&&decide (v≤hi - 2)&&(v.fmod 2==0))=(decide (lo≤v)&&decide (v<hi)&&(v.fmod 2==0)):=fun lo hi he=>by
  by_cases z:v % 2=0
  ·have:decide (v≤hi - 2)=decide (v<hi):=by
    by_cases q:v<hi
    ·rw [decide_eq_true q,decide_eq_true (by omega)]
    ·rw [decide_eq_false q,decide_eq_false (by omega)]
   rw [this]
  ·have:(v.fmod 2==0)=false:=by
    rw [Int.fmod_eq_emod_of_nonneg _ (by decide)]
    exact beq_eq_false_iff_ne.mpr z
   rw [this,Bool.and_false,Bool.and_false]
 exact by7 (one _ _) (one _ _) (one _ _) (two _ _ (by decide)) (one _ _) (two _ _ (by decide)) (one _ _)
theorem fits_ok {n f:Str} {b:Int} (hf:f∈immForms) (hl:lookS instrK instrV n=some (.tup [.str f,.num b])) (v:Int):okB (fitsX [.str n,.sym v])∧valB (fitsX [.str n,.sym v])=hrF f v:=by
 have hh:HX (fitsX [.str n,.sym v]) (fun av=>av=.sb (fitB f v)) False:=by
  refine run_of (C:=c9) (d:=0) (i:=20) (by kernel_rfl) ?_
  show HX (evalS c9 0 (scopeAt 20) 60 (fitE n v) (bodyAt 20) []) _ False
  rw [body20]
  refine cons_of ?_
  rw [fit_0,fit_0v,item_instr hl,fit_0w n v b f hf]
  refine hx_ret ?_
  show HX (evalS c9 0 (scopeAt 20) 59 (fitE2 n f v) [st20 1] []) _ False
  refine hx_unbind ?_
  rw [fit_1 n v f hf]
  exact hx_need (fun _=>trivial) (hx_need (fun _=>⟨rfl,trivial⟩) (hx_ret rfl))
 rw [← fitB_room v f hf]
 exact okB_of (R.holds_mono (fun av e=>⟨true,by rw [e]; rfl⟩) id hh.out)
end
end Mine
end
section
open PySem.SeqAt MineH
namespace Mine
section
local macro_rules | `(tactic| trivial)=>`(tactic| (simp only [zor,zand,Fit,and_true,Nat.zero_or,Nat.or_zero]; omega))
local macro_rules | `(tactic| trivial)=>`(tactic| (simp [zor,SameW]; done))
def pcN (v:Int) (k n:Nat):Nat:=(v / 2 ^ k % 2 ^ n).toNat
theorem pow_pos' (n:Nat):(0:Int)<2 ^ n:=Int.pow_pos (by decide)
theorem pc_eq (v:Int) (k n:Nat):((pcN v k n:Nat):Int)=v / 2 ^ k % 2 ^ n:=Int.toNat_of_nonneg (Int.emod_nonneg _ (Int.ne_of_gt (pow_pos' n)))
theorem pc_lt (v:Int) (k n:Nat):pcN v k n<2 ^ n:=by
 have h:=Int.emod_lt_of_pos (v / 2 ^ k) (pow_pos' n)
 rw [← pc_eq v k n] at h
 exact_mod_cast h
theorem im_pc (v:Int) (k n:Nat):im v (k:Int) ((2 ^ n - 1:Nat):Int)=((pcN v k n:Nat):Int):=by
 unfold im sh
 rw [and_mask,Int.toNat_natCast,fdiv_pow,pc_eq]
theorem ba_pc (v:Int) (n:Nat):Builtin.bitAnd v ((2 ^ n - 1:Nat):Int)=((pcN v 0 n:Nat):Int):=by
 rw [and_mask,pc_eq,Int.pow_zero,Int.ediv_one]
theorem and_full {v:Nat} (n:Nat) (h:v<2 ^ n):v &&& (2 ^ n - 1)=v:=by rw [Nat.and_two_pow_sub_one_eq_mod,Nat.mod_eq_of_lt h]
theorem and_not (B m:Nat):Builtin.bitAnd (B:Int) (Builtin.bitNot (m:Int))=((B - (B &&& m):Nat):Int):=by
 unfold Builtin.bitAnd
 rw [bitNot_eq,decide_eq_true (Int.natCast_nonneg B),decide_eq_false (show ¬ (0:Int) ≤ -(m:Int) - 1 by omega)]
 dsimp only
 rw [bitNot_eq,show (-(-(m:Int) - 1) - 1).toNat=m by omega,Int.toNat_natCast]
 have:B &&& m≤B:=Nat.and_le_left
 omega
theorem cut_at (B n:Nat):B=B % 2 ^ n+2 ^ n*(B / 2 ^ n):=(Nat.mod_add_div B (2 ^ n)).symm
def cut (B:Nat):Nat→List Nat→List (Nat×Nat)
 | _,[]=>[]
 | k,n :: l=>(n,B / 2 ^ k % 2 ^ n) :: cut B (k+n) l
theorem cut_eq (B:Nat):∀ (l:List Nat) (k:Nat),B / 2 ^ k=pk (cut B k l)+2 ^ l.sum*(B / 2 ^ (k+l.sum))
 | [],k=>by show _=0+2 ^ 0*(B / 2 ^ (k+0)); simp
 | n :: l,k=>by
  show _=(B / 2 ^ k % 2 ^ n+2 ^ n*pk (cut B (k+n) l))+2 ^ (n :: l).sum*(B / 2 ^ (k+(n :: l).sum))
  have h:=cut_eq B l (k+n)
  rw [List.sum_cons,← Nat.add_assoc,Nat.pow_add 2 n l.sum,Nat.mul_assoc,Nat.add_assoc,← Nat.mul_add,← h,Nat.pow_add 2 k n,← Nat.div_div_eq_div_mul]
  exact cut_at _ n
theorem pk_cut {B:Nat} (h:B<4294967296) (l:List Nat) (hl:l.sum=32):B=pk (cut B 0 l):=by
 have e:=cut_eq B l 0
 rw [hl,Nat.pow_zero,Nat.div_one,Nat.zero_add,Nat.div_eq_of_lt (show B<2 ^ 32 from h),Nat.mul_zero,Nat.add_zero] at e
 exact e
theorem pk_lt:∀ {l:List (Nat×Nat)},Fit l→pk l<2 ^ (l.map (·.1)).sum
 | [],_=>Nat.one_pos
 | (n,v) :: l,⟨h1,h2⟩=>by
  show v+2 ^ n*pk l<2 ^ (n+(l.map (·.1)).sum)
  have h:=pk_lt h2
  rw [Nat.pow_add]
  have:2 ^ n*pk l+2 ^ n≤2 ^ n*2 ^ (l.map (·.1)).sum:=by rw [← Nat.mul_succ]; exact Nat.mul_le_mul_left _ h
  omega
theorem pk_lt32 {l:List (Nat×Nat)} (h:Fit l) (hs:(l.map (·.1)).sum=32):pk l<4294967296:=by
 have e:=pk_lt h
 rw [hs] at e
 exact e
def zadd:List (Nat×Nat)→List (Nat×Nat)→List (Nat×Nat)
 | (n,v) :: l,(_,u) :: m=>(n,v+u) :: zadd l m
 | _,_=>[]
theorem pk_add:∀ {l m:List (Nat×Nat)},SameW l m→pk l+pk m=pk (zadd l m)
 | [],[],_=>by simp [pk,zadd]
 | (n,v) :: l,(_,u) :: m,⟨rfl,h⟩=>by
  show (v+2 ^ n*pk l)+(u+2 ^ n*pk m)=(v+u)+2 ^ n*pk (zadd l m)
  rw [← pk_add h,Nat.mul_add]; omega
theorem fld_head {n v:Nat} {l:List (Nat×Nat)} (h:v<2 ^ n):fld (pk ((n,v) :: l)) 0 n=v:=by
 show (v+2 ^ n*pk l) >>> 0 % 2 ^ n=v
 rw [Nat.shiftRight_zero]; exact low_mod _ h
theorem fld_skip {m u k n:Nat} {l:List (Nat×Nat)} (h:u<2 ^ m):fld (pk ((m,u) :: l)) (m+k) n=fld (pk l) k n:=by
 show (u+2 ^ m*pk l) >>> (m+k) % 2 ^ n=pk l >>> k % 2 ^ n
 rw [Nat.shiftRight_add,Nat.shiftRight_eq_div_pow _ m,top_div _ h]
theorem mod_split (x:Int) (a b:Nat):x % 2 ^ (a+b)=x / 2 ^ a % 2 ^ b*2 ^ a+x % 2 ^ a:=by
 have h:=lay_down x 0 a (x / 2 ^ a % 2 ^ b)
 induction b with
 | zero=>rw [Nat.add_zero,Int.pow_zero,Int.emod_one]; omega
 | succ b ih=>
  have ih:=ih (lay_down x 0 a _)
  rw [← Nat.add_assoc,mod_two x (a+b),ih,mod_two (x / 2 ^ a) b,Int.pow_add,← Int.ediv_ediv_of_nonneg (Int.le_of_lt (pow_pos' a)),Int.add_mul,Int.mul_assoc,Int.mul_comm (2 ^ b) (2 ^ a)]
  omega
theorem and32 {B:Nat} (h:B<4294967296):Builtin.bitAnd (B:Int) 4294967295=(B:Int):=by
 rw [show (4294967295:Int)=((2 ^ 32 - 1:Nat):Int) from rfl,and_mask]
 omega
def wordL (f:Str) (x y z d s t:Nat) (v:Int):List (Nat×Nat):=match f==("R" : Str) with
 | true=>[(7,x),(5,d),(3,y),(5,s),(5,t),(7,z)]
 | false=>match f==("I" : Str) with
 | true=>[(7,x),(5,d),(3,y),(5,s),(12,pcN v 0 12)]
 | false=>match f==("H" : Str) with
 | true=>[(7,x),(5,d),(3,y),(5,s),(5,pcN v 0 5),(7,z)]
 | false=>match f==("S" : Str) with
 | true=>[(7,x),(5,pcN v 0 5),(3,y),(5,s),(5,t),(7,pcN v 5 7)]
 | false=>match f==("B" : Str) with
 | true=>[(7,x),(1,pcN v 11 1),(4,pcN v 1 4),(3,y),(5,s),(5,t),(6,pcN v 5 6),(1,pcN v 12 1)]
 | false=>match f==("U" : Str) with
 | true=>[(7,x),(5,d),(20,pcN v 0 20)]
 | false=>match f==("J" : Str) with
 | true=>[(7,x),(5,d),(8,pcN v 12 8),(1,pcN v 11 1),(10,pcN v 1 10),(1,pcN v 20 1)]
 | false=>match f==("F" : Str) with
 | true=>[(7,x),(5,0),(3,y),(5,0),(8,pcN v 0 8),(4,0)]
 | false=>[(7,x),(25,z)]
def wordN (f:Str) (x y z d s t:Nat) (v:Int):Nat:=pk (wordL f x y z d s t v)
def baseN (f:Str) (x y z:Nat):Nat:=match f==("E" : Str) with | true=>x+y*4096+z*128 | false=>x+y*4096+z*33554432
def mkN (f:Str):Nat:=match f==("R" : Str) with
 | true=>4261441663
 | false=>match f==("I" : Str) with
 | true=>28799
 | false=>match f==("H" : Str) with
 | true=>4261441663
 | false=>match f==("S" : Str) with
 | true=>28799
 | false=>match f==("B" : Str) with
 | true=>28799
 | false=>match f==("U" : Str) with
 | true=>127
 | false=>match f==("J" : Str) with
 | true=>127
 | false=>match f==("F" : Str) with
 | true=>4027580415
 | false=>4294967295
def xyzOk (f:Str) (x y z:Nat):Prop:=match f==("R" : Str) with
 | true=>x<128∧y<8∧z<128
 | false=>match f==("I" : Str) with
 | true=>x<128∧y<8∧z=0
 | false=>match f==("H" : Str) with
 | true=>x<128∧y<8∧z<128
 | false=>match f==("S" : Str) with
 | true=>x<128∧y<8∧z=0
 | false=>match f==("B" : Str) with
 | true=>x<128∧y<8∧z=0
 | false=>match f==("U" : Str) with
 | true=>x<128∧y=0∧z=0
 | false=>match f==("J" : Str) with
 | true=>x<128∧y=0∧z=0
 | false=>match f==("F" : Str) with
 | true=>x<128∧y<8∧z=0
 | false=>x<128∧y=0∧z<33554432
theorem bitsN_I {v:Int} (h1 : -2048≤v) (h2:v<2048):HX (bitsX [.str "I",.sym v]) (fun av=>av=.sym ((wordN "I" 0 0 0 0 0 0 v:Nat):Int)) False:=by
 rw [bits_I]
 have e0:Builtin.bitAnd v 4095=((pcN v 0 12:Nat):Int):=ba_pc v 12
 have q0:=pc_lt v 0 12
 rw [e0]
 rw [show up ((pcN v 0 12:Nat):Int) 20=_ from up_nat _ 20]
 rw [show pcN v 0 12*2 ^ 20=pk [(7,0),(5,0),(3,0),(5,0),(12,pcN v 0 12)] by simp only [pk]; omega]
 exact hx_need (by rw [Int.natAbs_natCast]; omega) (hx_ret rfl)
theorem bitsN_H {v:Int} (h1:0≤v) (h2:v<32):HX (bitsX [.str "H",.sym v]) (fun av=>av=.sym ((wordN "H" 0 0 0 0 0 0 v:Nat):Int)) False:=by
 rw [bits_H]
 have e0:v=((pcN v 0 5:Nat):Int):=by rw [pc_eq]; omega
 have q0:=pc_lt v 0 5
 have u:up v 20=((wordN "H" 0 0 0 0 0 0 v:Nat):Int):=by
  rw [show up v 20=up ((pcN v 0 5:Nat):Int) 20 by rw [← e0],show up ((pcN v 0 5:Nat):Int) 20=_ from up_nat _ 20]
  rw [show pcN v 0 5*2 ^ 20=pk [(7,0),(5,0),(3,0),(5,0),(5,pcN v 0 5),(7,0)] by simp only [pk]; omega]; rfl
 exact hx_need (by omega) (hx_ret (by rw [u]))
theorem bitsN_S {v:Int} (h1 : -2048≤v) (h2:v<2048):HX (bitsX [.str "S",.sym v]) (fun av=>av=.sym ((wordN "S" 0 0 0 0 0 0 v:Nat):Int)) False:=by
 rw [bits_S]
 have e0:im v 5 127=((pcN v 5 7:Nat):Int):=im_pc v 5 7
 have e1:Builtin.bitAnd v 31=((pcN v 0 5:Nat):Int):=ba_pc v 5
 have q0:=pc_lt v 5 7
 have q1:=pc_lt v 0 5
 rw [e0,e1]
 rw [show up ((pcN v 5 7:Nat):Int) 25=_ from up_nat _ 25,show up ((pcN v 0 5:Nat):Int) 7=_ from up_nat _ 7]
 rw [show pcN v 5 7*2 ^ 25=pk [(7,0),(5,0),(3,0),(5,0),(5,0),(7,pcN v 5 7)] by simp only [pk]; omega,show pcN v 0 5*2 ^ 7=pk [(7,0),(5,pcN v 0 5),(3,0),(5,0),(5,0),(7,0)] by simp only [pk]; omega]
 unfold bo
 rw [bitOr_nat,pk_or (by trivial) (by trivial) (by trivial)]
 simp only [zor,Nat.zero_or,Nat.or_zero]
 exact hx_need (by rw [Int.natAbs_natCast]; omega) (hx_need (by rw [Int.natAbs_natCast]; omega) (hx_ret rfl))
theorem bitsN_B {v:Int} (h1 : -4096≤v) (h2:v<4096):HX (bitsX [.str "B",.sym v]) (fun av=>av=.sym ((wordN "B" 0 0 0 0 0 0 v:Nat):Int)) False:=by
 rw [bits_B]
 have e0:im v 12 1=((pcN v 12 1:Nat):Int):=im_pc v 12 1
 have e1:im v 5 63=((pcN v 5 6:Nat):Int):=im_pc v 5 6
 have e2:im v 1 15=((pcN v 1 4:Nat):Int):=im_pc v 1 4
 have e3:im v 11 1=((pcN v 11 1:Nat):Int):=im_pc v 11 1
 have q0:=pc_lt v 12 1
 have q1:=pc_lt v 5 6
 have q2:=pc_lt v 1 4
 have q3:=pc_lt v 11 1
 rw [e0,e1,e2,e3]
 rw [show up ((pcN v 12 1:Nat):Int) 31=_ from up_nat _ 31,show up ((pcN v 5 6:Nat):Int) 25=_ from up_nat _ 25,show up ((pcN v 1 4:Nat):Int) 8=_ from up_nat _ 8,show up ((pcN v 11 1:Nat):Int) 7=_ from up_nat _ 7]
 rw [show pcN v 12 1*2 ^ 31=pk [(7,0),(1,0),(4,0),(3,0),(5,0),(5,0),(6,0),(1,pcN v 12 1)] by simp only [pk]; omega,show pcN v 5 6*2 ^ 25=pk [(7,0),(1,0),(4,0),(3,0),(5,0),(5,0),(6,pcN v 5 6),(1,0)] by simp only [pk]; omega,show pcN v 1 4*2 ^ 8=pk [(7,0),(1,0),(4,pcN v 1 4),(3,0),(5,0),(5,0),(6,0),(1,0)] by simp only [pk]; omega,show pcN v 11 1*2 ^ 7=pk [(7,0),(1,pcN v 11 1),(4,0),(3,0),(5,0),(5,0),(6,0),(1,0)] by simp only [pk]; omega]
 unfold bo
 rw [bitOr_nat,pk_or (by trivial) (by trivial) (by trivial),bitOr_nat,pk_or (by trivial) (by trivial) (by trivial),bitOr_nat,pk_or (by trivial) (by trivial) (by trivial)]
 simp only [zor,Nat.zero_or,Nat.or_zero]
 exact hx_need (by rw [Int.natAbs_natCast]; omega) (hx_need (by rw [Int.natAbs_natCast]; omega) (hx_need (by rw [Int.natAbs_natCast]; omega) (hx_need (by rw [Int.natAbs_natCast]; omega) (hx_ret rfl))))
theorem bitsN_U {v:Int} (h1:0≤v) (h2:v<1048576):HX (bitsX [.str "U",.sym v]) (fun av=>av=.sym ((wordN "U" 0 0 0 0 0 0 v:Nat):Int)) False:=by
 rw [bits_U]
 have e0:v=((pcN v 0 20:Nat):Int):=by rw [pc_eq]; omega
 have q0:=pc_lt v 0 20
 have u:up v 12=((wordN "U" 0 0 0 0 0 0 v:Nat):Int):=by
  rw [show up v 12=up ((pcN v 0 20:Nat):Int) 12 by rw [← e0],show up ((pcN v 0 20:Nat):Int) 12=_ from up_nat _ 12]
  rw [show pcN v 0 20*2 ^ 12=pk [(7,0),(5,0),(20,pcN v 0 20)] by simp only [pk]; omega]; rfl
 exact hx_need (by omega) (hx_ret (by rw [u]))
theorem bitsN_J {v:Int} (h1 : -1048576≤v) (h2:v<1048576):HX (bitsX [.str "J",.sym v]) (fun av=>av=.sym ((wordN "J" 0 0 0 0 0 0 v:Nat):Int)) False:=by
 rw [bits_J]
 have e0:im v 20 1=((pcN v 20 1:Nat):Int):=im_pc v 20 1
 have e1:im v 1 1023=((pcN v 1 10:Nat):Int):=im_pc v 1 10
 have e2:im v 11 1=((pcN v 11 1:Nat):Int):=im_pc v 11 1
 have e3:im v 12 255=((pcN v 12 8:Nat):Int):=im_pc v 12 8
 have q0:=pc_lt v 20 1
 have q1:=pc_lt v 1 10
 have q2:=pc_lt v 11 1
 have q3:=pc_lt v 12 8
 rw [e0,e1,e2,e3]
 rw [show up ((pcN v 20 1:Nat):Int) 31=_ from up_nat _ 31,show up ((pcN v 1 10:Nat):Int) 21=_ from up_nat _ 21,show up ((pcN v 11 1:Nat):Int) 20=_ from up_nat _ 20,show up ((pcN v 12 8:Nat):Int) 12=_ from up_nat _ 12]
 rw [show pcN v 20 1*2 ^ 31=pk [(7,0),(5,0),(8,0),(1,0),(10,0),(1,pcN v 20 1)] by simp only [pk]; omega,show pcN v 1 10*2 ^ 21=pk [(7,0),(5,0),(8,0),(1,0),(10,pcN v 1 10),(1,0)] by simp only [pk]; omega,show pcN v 11 1*2 ^ 20=pk [(7,0),(5,0),(8,0),(1,pcN v 11 1),(10,0),(1,0)] by simp only [pk]; omega,show pcN v 12 8*2 ^ 12=pk [(7,0),(5,0),(8,pcN v 12 8),(1,0),(10,0),(1,0)] by simp only [pk]; omega]
 unfold bo
 rw [bitOr_nat,pk_or (by trivial) (by trivial) (by trivial),bitOr_nat,pk_or (by trivial) (by trivial) (by trivial),bitOr_nat,pk_or (by trivial) (by trivial) (by trivial)]
 simp only [zor,Nat.zero_or,Nat.or_zero]
 exact hx_need (by rw [Int.natAbs_natCast]; omega) (hx_need (by rw [Int.natAbs_natCast]; omega) (hx_need (by rw [Int.natAbs_natCast]; omega) (hx_need (by rw [Int.natAbs_natCast]; omega) (hx_ret rfl))))
theorem bitsN_F {v:Int} (h1:0≤v) (h2:v<256):HX (bitsX [.str "F",.sym v]) (fun av=>av=.sym ((wordN "F" 0 0 0 0 0 0 v:Nat):Int)) False:=by
 rw [bits_F]
 have e0:v=((pcN v 0 8:Nat):Int):=by rw [pc_eq]; omega
 have q0:=pc_lt v 0 8
 have u:up v 20=((wordN "F" 0 0 0 0 0 0 v:Nat):Int):=by
  rw [show up v 20=up ((pcN v 0 8:Nat):Int) 20 by rw [← e0],show up ((pcN v 0 8:Nat):Int) 20=_ from up_nat _ 20]
  rw [show pcN v 0 8*2 ^ 20=pk [(7,0),(5,0),(3,0),(5,0),(8,pcN v 0 8),(4,0)] by simp only [pk]; omega]; rfl
 exact hx_need (by omega) (hx_ret (by rw [u]))
theorem encN_R {x y z d s t:Nat} {v:Int} (hx:xyzOk "R" x y z) (hd:d<32) (hs:s<32) (ht:t<32):bo (bo (bo (((baseN "R" x y z:Nat):Int)) (((d:Nat):Int)*2 ^ (7:Int).toNat)) (((s:Nat):Int)*2 ^ (15:Int).toNat)) (((t:Nat):Int)*2 ^ (20:Int).toNat)=((wordN "R" x y z d s t v:Nat):Int):=by
 have hx:x<128∧y<8∧z<128:=hx
 rw [show baseN "R" x y z=pk [(7,x),(5,0),(3,y),(5,0),(5,0),(7,z)] by show x+y*4096+z*33554432=_; simp only [pk]; omega]
 rw [show ((d:Nat):Int)*2 ^ (7:Int).toNat=((pk [(7,0),(5,d),(3,0),(5,0),(5,0),(7,0)]:Nat):Int) by simp only [pk]; rw [show (7:Int).toNat=7 from rfl]; omega]
 rw [show ((s:Nat):Int)*2 ^ (15:Int).toNat=((pk [(7,0),(5,0),(3,0),(5,s),(5,0),(7,0)]:Nat):Int) by simp only [pk]; rw [show (15:Int).toNat=15 from rfl]; omega]
 rw [show ((t:Nat):Int)*2 ^ (20:Int).toNat=((pk [(7,0),(5,0),(3,0),(5,0),(5,t),(7,0)]:Nat):Int) by simp only [pk]; rw [show (20:Int).toNat=20 from rfl]; omega]
 unfold bo
 rw [bitOr_nat,pk_or (by trivial) (by trivial) (by trivial),bitOr_nat,pk_or (by trivial) (by trivial) (by trivial),bitOr_nat,pk_or (by trivial) (by trivial) (by trivial)]
 simp only [zor,Nat.zero_or,Nat.or_zero]
 rfl
theorem encN_I {x y z d s t:Nat} {v:Int} (hx:xyzOk "I" x y z) (hd:d<32) (hs:s<32) (ht:t<32):bo (bo (bo (((baseN "I" x y z:Nat):Int)) (((d:Nat):Int)*2 ^ (7:Int).toNat)) (((s:Nat):Int)*2 ^ (15:Int).toNat)) ((wordN "I" 0 0 0 0 0 0 v:Nat):Int)=((wordN "I" x y z d s t v:Nat):Int):=by
 have hx:x<128∧y<8∧z=0:=hx
 have l4:=pc_lt v 0 12
 rw [show baseN "I" x y z=pk [(7,x),(5,0),(3,y),(5,0),(12,0)] by show x+y*4096+z*33554432=_; simp only [pk]; omega]
 rw [show ((d:Nat):Int)*2 ^ (7:Int).toNat=((pk [(7,0),(5,d),(3,0),(5,0),(12,0)]:Nat):Int) by simp only [pk]; rw [show (7:Int).toNat=7 from rfl]; omega]
 rw [show ((s:Nat):Int)*2 ^ (15:Int).toNat=((pk [(7,0),(5,0),(3,0),(5,s),(12,0)]:Nat):Int) by simp only [pk]; rw [show (15:Int).toNat=15 from rfl]; omega]
 rw [show wordN "I" 0 0 0 0 0 0 v=pk [(7,0),(5,0),(3,0),(5,0),(12,pcN v 0 12)] from rfl]
 unfold bo
 rw [bitOr_nat,pk_or (by trivial) (by trivial) (by trivial),bitOr_nat,pk_or (by trivial) (by trivial) (by trivial),bitOr_nat,pk_or (by trivial) (by trivial) (by trivial)]
 simp only [zor,Nat.zero_or,Nat.or_zero]
 rfl
theorem encN_H {x y z d s t:Nat} {v:Int} (hx:xyzOk "H" x y z) (hd:d<32) (hs:s<32) (ht:t<32):bo (bo (bo (((baseN "H" x y z:Nat):Int)) (((d:Nat):Int)*2 ^ (7:Int).toNat)) (((s:Nat):Int)*2 ^ (15:Int).toNat)) ((wordN "H" 0 0 0 0 0 0 v:Nat):Int)=((wordN "H" x y z d s t v:Nat):Int):=by
 have hx:x<128∧y<8∧z<128:=hx
 have l4:=pc_lt v 0 5
 rw [show baseN "H" x y z=pk [(7,x),(5,0),(3,y),(5,0),(5,0),(7,z)] by show x+y*4096+z*33554432=_; simp only [pk]; omega]
 rw [show ((d:Nat):Int)*2 ^ (7:Int).toNat=((pk [(7,0),(5,d),(3,0),(5,0),(5,0),(7,0)]:Nat):Int) by simp only [pk]; rw [show (7:Int).toNat=7 from rfl]; omega]
 rw [show ((s:Nat):Int)*2 ^ (15:Int).toNat=((pk [(7,0),(5,0),(3,0),(5,s),(5,0),(7,0)]:Nat):Int) by simp only [pk]; rw [show (15:Int).toNat=15 from rfl]; omega]
 rw [show wordN "H" 0 0 0 0 0 0 v=pk [(7,0),(5,0),(3,0),(5,0),(5,pcN v 0 5),(7,0)] from rfl]
 unfold bo
 rw [bitOr_nat,pk_or (by trivial) (by trivial) (by trivial),bitOr_nat,pk_or (by trivial) (by trivial) (by trivial),bitOr_nat,pk_or (by trivial) (by trivial) (by trivial)]
 simp only [zor,Nat.zero_or,Nat.or_zero]
 rfl
theorem encN_S {x y z d s t:Nat} {v:Int} (hx:xyzOk "S" x y z) (hd:d<32) (hs:s<32) (ht:t<32):bo (bo (bo (((baseN "S" x y z:Nat):Int)) (((s:Nat):Int)*2 ^ (15:Int).toNat)) (((t:Nat):Int)*2 ^ (20:Int).toNat)) ((wordN "S" 0 0 0 0 0 0 v:Nat):Int)=((wordN "S" x y z d s t v:Nat):Int):=by
 have hx:x<128∧y<8∧z=0:=hx
 have l1:=pc_lt v 0 5
 have l5:=pc_lt v 5 7
 rw [show baseN "S" x y z=pk [(7,x),(5,0),(3,y),(5,0),(5,0),(7,0)] by show x+y*4096+z*33554432=_; simp only [pk]; omega]
 rw [show ((s:Nat):Int)*2 ^ (15:Int).toNat=((pk [(7,0),(5,0),(3,0),(5,s),(5,0),(7,0)]:Nat):Int) by simp only [pk]; rw [show (15:Int).toNat=15 from rfl]; omega]
 rw [show ((t:Nat):Int)*2 ^ (20:Int).toNat=((pk [(7,0),(5,0),(3,0),(5,0),(5,t),(7,0)]:Nat):Int) by simp only [pk]; rw [show (20:Int).toNat=20 from rfl]; omega]
 rw [show wordN "S" 0 0 0 0 0 0 v=pk [(7,0),(5,pcN v 0 5),(3,0),(5,0),(5,0),(7,pcN v 5 7)] from rfl]
 unfold bo
 rw [bitOr_nat,pk_or (by trivial) (by trivial) (by trivial),bitOr_nat,pk_or (by trivial) (by trivial) (by trivial),bitOr_nat,pk_or (by trivial) (by trivial) (by trivial)]
 simp only [zor,Nat.zero_or,Nat.or_zero]
 rfl
theorem encN_B {x y z d s t:Nat} {v:Int} (hx:xyzOk "B" x y z) (hd:d<32) (hs:s<32) (ht:t<32):bo (bo (bo (((baseN "B" x y z:Nat):Int)) (((s:Nat):Int)*2 ^ (15:Int).toNat)) (((t:Nat):Int)*2 ^ (20:Int).toNat)) ((wordN "B" 0 0 0 0 0 0 v:Nat):Int)=((wordN "B" x y z d s t v:Nat):Int):=by
 have hx:x<128∧y<8∧z=0:=hx
 have l1:=pc_lt v 11 1
 have l2:=pc_lt v 1 4
 have l6:=pc_lt v 5 6
 have l7:=pc_lt v 12 1
 rw [show baseN "B" x y z=pk [(7,x),(1,0),(4,0),(3,y),(5,0),(5,0),(6,0),(1,0)] by show x+y*4096+z*33554432=_; simp only [pk]; omega]
 rw [show ((s:Nat):Int)*2 ^ (15:Int).toNat=((pk [(7,0),(1,0),(4,0),(3,0),(5,s),(5,0),(6,0),(1,0)]:Nat):Int) by simp only [pk]; rw [show (15:Int).toNat=15 from rfl]; omega]
 rw [show ((t:Nat):Int)*2 ^ (20:Int).toNat=((pk [(7,0),(1,0),(4,0),(3,0),(5,0),(5,t),(6,0),(1,0)]:Nat):Int) by simp only [pk]; rw [show (20:Int).toNat=20 from rfl]; omega]
 rw [show wordN "B" 0 0 0 0 0 0 v=pk [(7,0),(1,pcN v 11 1),(4,pcN v 1 4),(3,0),(5,0),(5,0),(6,pcN v 5 6),(1,pcN v 12 1)] from rfl]
 unfold bo
 rw [bitOr_nat,pk_or (by trivial) (by trivial) (by trivial),bitOr_nat,pk_or (by trivial) (by trivial) (by trivial),bitOr_nat,pk_or (by trivial) (by trivial) (by trivial)]
 simp only [zor,Nat.zero_or,Nat.or_zero]
 rfl
theorem encN_U {x y z d s t:Nat} {v:Int} (hx:xyzOk "U" x y z) (hd:d<32) (hs:s<32) (ht:t<32):bo (bo (((baseN "U" x y z:Nat):Int)) (((d:Nat):Int)*2 ^ (7:Int).toNat)) ((wordN "U" 0 0 0 0 0 0 v:Nat):Int)=((wordN "U" x y z d s t v:Nat):Int):=by
 have hx:x<128∧y=0∧z=0:=hx
 have l2:=pc_lt v 0 20
 rw [show baseN "U" x y z=pk [(7,x),(5,0),(20,0)] by show x+y*4096+z*33554432=_; simp only [pk]; omega]
 rw [show ((d:Nat):Int)*2 ^ (7:Int).toNat=((pk [(7,0),(5,d),(20,0)]:Nat):Int) by simp only [pk]; rw [show (7:Int).toNat=7 from rfl]; omega]
 rw [show wordN "U" 0 0 0 0 0 0 v=pk [(7,0),(5,0),(20,pcN v 0 20)] from rfl]
 unfold bo
 rw [bitOr_nat,pk_or (by trivial) (by trivial) (by trivial),bitOr_nat,pk_or (by trivial) (by trivial) (by trivial)]
 simp only [zor,Nat.zero_or,Nat.or_zero]
 rfl
theorem encN_J {x y z d s t:Nat} {v:Int} (hx:xyzOk "J" x y z) (hd:d<32) (hs:s<32) (ht:t<32):bo (bo (((baseN "J" x y z:Nat):Int)) (((d:Nat):Int)*2 ^ (7:Int).toNat)) ((wordN "J" 0 0 0 0 0 0 v:Nat):Int)=((wordN "J" x y z d s t v:Nat):Int):=by
 have hx:x<128∧y=0∧z=0:=hx
 have l2:=pc_lt v 12 8
 have l3:=pc_lt v 11 1
 have l4:=pc_lt v 1 10
 have l5:=pc_lt v 20 1
 rw [show baseN "J" x y z=pk [(7,x),(5,0),(8,0),(1,0),(10,0),(1,0)] by show x+y*4096+z*33554432=_; simp only [pk]; omega]
 rw [show ((d:Nat):Int)*2 ^ (7:Int).toNat=((pk [(7,0),(5,d),(8,0),(1,0),(10,0),(1,0)]:Nat):Int) by simp only [pk]; rw [show (7:Int).toNat=7 from rfl]; omega]
 rw [show wordN "J" 0 0 0 0 0 0 v=pk [(7,0),(5,0),(8,pcN v 12 8),(1,pcN v 11 1),(10,pcN v 1 10),(1,pcN v 20 1)] from rfl]
 unfold bo
 rw [bitOr_nat,pk_or (by trivial) (by trivial) (by trivial),bitOr_nat,pk_or (by trivial) (by trivial) (by trivial)]
 simp only [zor,Nat.zero_or,Nat.or_zero]
 rfl
theorem encN_F {x y z d s t:Nat} {v:Int} (hx:xyzOk "F" x y z) (hd:d<32) (hs:s<32) (ht:t<32):bo (((baseN "F" x y z:Nat):Int)) ((wordN "F" 0 0 0 0 0 0 v:Nat):Int)=((wordN "F" x y z d s t v:Nat):Int):=by
 have hx:x<128∧y<8∧z=0:=hx
 have l4:=pc_lt v 0 8
 rw [show baseN "F" x y z=pk [(7,x),(5,0),(3,y),(5,0),(8,0),(4,0)] by show x+y*4096+z*33554432=_; simp only [pk]; omega]
 rw [show wordN "F" 0 0 0 0 0 0 v=pk [(7,0),(5,0),(3,0),(5,0),(8,pcN v 0 8),(4,0)] from rfl]
 unfold bo
 rw [bitOr_nat,pk_or (by trivial) (by trivial) (by trivial)]
 simp only [zor,Nat.zero_or,Nat.or_zero]
 rfl
theorem hitN_R {x y z d s t:Nat} {v:Int} (hx:xyzOk "R" x y z) (hd:d<32) (hs:s<32) (ht:t<32):wordN "R" x y z d s t v &&& mkN "R" = baseN "R" x y z∧wordN "R" x y z d s t v<4294967296:=by
 have hx:x<128∧y<8∧z<128:=hx
 refine ⟨?_,?_⟩
 ·rw [show wordN "R" x y z d s t v=pk [(7,x),(5,d),(3,y),(5,s),(5,t),(7,z)] from rfl,show mkN "R" = pk [(7,127),(5,0),(3,7),(5,0),(5,0),(7,127)] by decide +kernel,pk_and (by trivial) (by trivial) (by trivial)]
  simp only [zand,Nat.and_zero,Nat.zero_and]
  rw [show x &&& 127=x from and_full 7 (by omega)]
  rw [show y &&& 7=y from and_full 3 (by omega)]
  rw [show z &&& 127=z from and_full 7 (by omega)]
  show _=x+y*4096+z*33554432
  simp only [pk]; omega
 ·rw [show wordN "R" x y z d s t v=pk [(7,x),(5,d),(3,y),(5,s),(5,t),(7,z)] from rfl]; exact pk_lt32 (by trivial) rfl
theorem hitN_I {x y z d s t:Nat} {v:Int} (hx:xyzOk "I" x y z) (hd:d<32) (hs:s<32) (ht:t<32):wordN "I" x y z d s t v &&& mkN "I" = baseN "I" x y z∧wordN "I" x y z d s t v<4294967296:=by
 have hx:x<128∧y<8∧z=0:=hx
 have l4:=pc_lt v 0 12
 refine ⟨?_,?_⟩
 ·rw [show wordN "I" x y z d s t v=pk [(7,x),(5,d),(3,y),(5,s),(12,pcN v 0 12)] from rfl,show mkN "I" = pk [(7,127),(5,0),(3,7),(5,0),(12,0)] by decide +kernel,pk_and (by trivial) (by trivial) (by trivial)]
  simp only [zand,Nat.and_zero,Nat.zero_and]
  rw [show x &&& 127=x from and_full 7 (by omega)]
  rw [show y &&& 7=y from and_full 3 (by omega)]
  show _=x+y*4096+z*33554432
  simp only [pk]; omega
 ·rw [show wordN "I" x y z d s t v=pk [(7,x),(5,d),(3,y),(5,s),(12,pcN v 0 12)] from rfl]; exact pk_lt32 (by trivial) rfl
theorem hitN_H {x y z d s t:Nat} {v:Int} (hx:xyzOk "H" x y z) (hd:d<32) (hs:s<32) (ht:t<32):wordN "H" x y z d s t v &&& mkN "H" = baseN "H" x y z∧wordN "H" x y z d s t v<4294967296:=by
 have hx:x<128∧y<8∧z<128:=hx
 have l4:=pc_lt v 0 5
 refine ⟨?_,?_⟩
 ·rw [show wordN "H" x y z d s t v=pk [(7,x),(5,d),(3,y),(5,s),(5,pcN v 0 5),(7,z)] from rfl,show mkN "H" = pk [(7,127),(5,0),(3,7),(5,0),(5,0),(7,127)] by decide +kernel,pk_and (by trivial) (by trivial) (by trivial)]
  simp only [zand,Nat.and_zero,Nat.zero_and]
  rw [show x &&& 127=x from and_full 7 (by omega)]
  rw [show y &&& 7=y from and_full 3 (by omega)]
  rw [show z &&& 127=z from and_full 7 (by omega)]
  show _=x+y*4096+z*33554432
  simp only [pk]; omega
 ·rw [show wordN "H" x y z d s t v=pk [(7,x),(5,d),(3,y),(5,s),(5,pcN v 0 5),(7,z)] from rfl]; exact pk_lt32 (by trivial) rfl
theorem hitN_S {x y z d s t:Nat} {v:Int} (hx:xyzOk "S" x y z) (hd:d<32) (hs:s<32) (ht:t<32):wordN "S" x y z d s t v &&& mkN "S" = baseN "S" x y z∧wordN "S" x y z d s t v<4294967296:=by
 have hx:x<128∧y<8∧z=0:=hx
 have l1:=pc_lt v 0 5
 have l5:=pc_lt v 5 7
 refine ⟨?_,?_⟩
 ·rw [show wordN "S" x y z d s t v=pk [(7,x),(5,pcN v 0 5),(3,y),(5,s),(5,t),(7,pcN v 5 7)] from rfl,show mkN "S" = pk [(7,127),(5,0),(3,7),(5,0),(5,0),(7,0)] by decide +kernel,pk_and (by trivial) (by trivial) (by trivial)]
  simp only [zand,Nat.and_zero,Nat.zero_and]
  rw [show x &&& 127=x from and_full 7 (by omega)]
  rw [show y &&& 7=y from and_full 3 (by omega)]
  show _=x+y*4096+z*33554432
  simp only [pk]; omega
 ·rw [show wordN "S" x y z d s t v=pk [(7,x),(5,pcN v 0 5),(3,y),(5,s),(5,t),(7,pcN v 5 7)] from rfl]; exact pk_lt32 (by trivial) rfl
theorem hitN_B {x y z d s t:Nat} {v:Int} (hx:xyzOk "B" x y z) (hd:d<32) (hs:s<32) (ht:t<32):wordN "B" x y z d s t v &&& mkN "B" = baseN "B" x y z∧wordN "B" x y z d s t v<4294967296:=by
 have hx:x<128∧y<8∧z=0:=hx
 have l1:=pc_lt v 11 1
 have l2:=pc_lt v 1 4
 have l6:=pc_lt v 5 6
 have l7:=pc_lt v 12 1
 refine ⟨?_,?_⟩
 ·rw [show wordN "B" x y z d s t v=pk [(7,x),(1,pcN v 11 1),(4,pcN v 1 4),(3,y),(5,s),(5,t),(6,pcN v 5 6),(1,pcN v 12 1)] from rfl,show mkN "B" = pk [(7,127),(1,0),(4,0),(3,7),(5,0),(5,0),(6,0),(1,0)] by decide +kernel,pk_and (by trivial) (by trivial) (by trivial)]
  simp only [zand,Nat.and_zero,Nat.zero_and]
  rw [show x &&& 127=x from and_full 7 (by omega)]
  rw [show y &&& 7=y from and_full 3 (by omega)]
  show _=x+y*4096+z*33554432
  simp only [pk]; omega
 ·rw [show wordN "B" x y z d s t v=pk [(7,x),(1,pcN v 11 1),(4,pcN v 1 4),(3,y),(5,s),(5,t),(6,pcN v 5 6),(1,pcN v 12 1)] from rfl]; exact pk_lt32 (by trivial) rfl
theorem hitN_U {x y z d s t:Nat} {v:Int} (hx:xyzOk "U" x y z) (hd:d<32) (hs:s<32) (ht:t<32):wordN "U" x y z d s t v &&& mkN "U" = baseN "U" x y z∧wordN "U" x y z d s t v<4294967296:=by
 have hx:x<128∧y=0∧z=0:=hx
 have l2:=pc_lt v 0 20
 refine ⟨?_,?_⟩
 ·rw [show wordN "U" x y z d s t v=pk [(7,x),(5,d),(20,pcN v 0 20)] from rfl,show mkN "U" = pk [(7,127),(5,0),(20,0)] by decide +kernel,pk_and (by trivial) (by trivial) (by trivial)]
  simp only [zand,Nat.and_zero,Nat.zero_and]
  rw [show x &&& 127=x from and_full 7 (by omega)]
  show _=x+y*4096+z*33554432
  simp only [pk]; omega
 ·rw [show wordN "U" x y z d s t v=pk [(7,x),(5,d),(20,pcN v 0 20)] from rfl]; exact pk_lt32 (by trivial) rfl
theorem hitN_J {x y z d s t:Nat} {v:Int} (hx:xyzOk "J" x y z) (hd:d<32) (hs:s<32) (ht:t<32):wordN "J" x y z d s t v &&& mkN "J" = baseN "J" x y z∧wordN "J" x y z d s t v<4294967296:=by
 have hx:x<128∧y=0∧z=0:=hx
 have l2:=pc_lt v 12 8
 have l3:=pc_lt v 11 1
 have l4:=pc_lt v 1 10
 have l5:=pc_lt v 20 1
 refine ⟨?_,?_⟩
 ·rw [show wordN "J" x y z d s t v=pk [(7,x),(5,d),(8,pcN v 12 8),(1,pcN v 11 1),(10,pcN v 1 10),(1,pcN v 20 1)] from rfl,show mkN "J" = pk [(7,127),(5,0),(8,0),(1,0),(10,0),(1,0)] by decide +kernel,pk_and (by trivial) (by trivial) (by trivial)]
  simp only [zand,Nat.and_zero,Nat.zero_and]
  rw [show x &&& 127=x from and_full 7 (by omega)]
  show _=x+y*4096+z*33554432
  simp only [pk]; omega
 ·rw [show wordN "J" x y z d s t v=pk [(7,x),(5,d),(8,pcN v 12 8),(1,pcN v 11 1),(10,pcN v 1 10),(1,pcN v 20 1)] from rfl]; exact pk_lt32 (by trivial) rfl
theorem hitN_F {x y z d s t:Nat} {v:Int} (hx:xyzOk "F" x y z) (hd:d<32) (hs:s<32) (ht:t<32):wordN "F" x y z d s t v &&& mkN "F" = baseN "F" x y z∧wordN "F" x y z d s t v<4294967296:=by
 have hx:x<128∧y<8∧z=0:=hx
 have l4:=pc_lt v 0 8
 refine ⟨?_,?_⟩
 ·rw [show wordN "F" x y z d s t v=pk [(7,x),(5,0),(3,y),(5,0),(8,pcN v 0 8),(4,0)] from rfl,show mkN "F" = pk [(7,127),(5,31),(3,7),(5,31),(8,0),(4,15)] by decide +kernel,pk_and (by trivial) (by trivial) (by trivial)]
  simp only [zand,Nat.and_zero,Nat.zero_and]
  rw [show x &&& 127=x from and_full 7 (by omega)]
  rw [show y &&& 7=y from and_full 3 (by omega)]
  show _=x+y*4096+z*33554432
  simp only [pk]; omega
 ·rw [show wordN "F" x y z d s t v=pk [(7,x),(5,0),(3,y),(5,0),(8,pcN v 0 8),(4,0)] from rfl]; exact pk_lt32 (by trivial) rfl
theorem hitN_E {x y z d s t:Nat} {v:Int} (hx:xyzOk "E" x y z) (hd:d<32) (hs:s<32) (ht:t<32):wordN "E" x y z d s t v &&& mkN "E" = baseN "E" x y z∧wordN "E" x y z d s t v<4294967296:=by
 have hx:x<128∧y=0∧z<33554432:=hx
 refine ⟨?_,?_⟩
 ·rw [show wordN "E" x y z d s t v=pk [(7,x),(25,z)] from rfl,show mkN "E" = pk [(7,127),(25,33554431)] by decide +kernel,pk_and (by trivial) (by trivial) (by trivial)]
  simp only [zand,Nat.and_zero,Nat.zero_and]
  rw [show x &&& 127=x from and_full 7 (by omega)]
  rw [show z &&& 33554431=z from and_full 25 (by omega)]
  show _=x+y*4096+z*128
  simp only [pk]; omega
 ·rw [show wordN "E" x y z d s t v=pk [(7,x),(25,z)] from rfl]; exact pk_lt32 (by trivial) rfl
theorem back_R_rd {x y z d s t:Nat} {v:Int} (hx:xyzOk "R" x y z) (hd:d<32) (hs:s<32) (ht:t<32):fieldV "R" ((wordN "R" x y z d s t v:Nat):Int) "rd" = (d:Int):=by
 have hx:x<128∧y<8∧z<128:=hx
 show im ((wordN "R" x y z d s t v:Nat):Int) 7 31=_
 rw [show im ((wordN "R" x y z d s t v:Nat):Int) 7 31=_ from im_fld _ 7 5]
 unfold fld
 rw [Nat.shiftRight_eq_div_pow,show wordN "R" x y z d s t v=pk [(7,x),(5,d),(3,y),(5,s),(5,t),(7,z)] from rfl]
 simp only [pk]; omega
theorem back_R_rs1 {x y z d s t:Nat} {v:Int} (hx:xyzOk "R" x y z) (hd:d<32) (hs:s<32) (ht:t<32):fieldV "R" ((wordN "R" x y z d s t v:Nat):Int) "rs1" = (s:Int):=by
 have hx:x<128∧y<8∧z<128:=hx
 show im ((wordN "R" x y z d s t v:Nat):Int) 15 31=_
 rw [show im ((wordN "R" x y z d s t v:Nat):Int) 15 31=_ from im_fld _ 15 5]
 unfold fld
 rw [Nat.shiftRight_eq_div_pow,show wordN "R" x y z d s t v=pk [(7,x),(5,d),(3,y),(5,s),(5,t),(7,z)] from rfl]
 simp only [pk]; omega
theorem back_R_rs2 {x y z d s t:Nat} {v:Int} (hx:xyzOk "R" x y z) (hd:d<32) (hs:s<32) (ht:t<32):fieldV "R" ((wordN "R" x y z d s t v:Nat):Int) "rs2" = (t:Int):=by
 have hx:x<128∧y<8∧z<128:=hx
 show im ((wordN "R" x y z d s t v:Nat):Int) 20 31=_
 rw [show im ((wordN "R" x y z d s t v:Nat):Int) 20 31=_ from im_fld _ 20 5]
 unfold fld
 rw [Nat.shiftRight_eq_div_pow,show wordN "R" x y z d s t v=pk [(7,x),(5,d),(3,y),(5,s),(5,t),(7,z)] from rfl]
 simp only [pk]; omega
theorem back_I_rd {x y z d s t:Nat} {v:Int} (hx:xyzOk "I" x y z) (hd:d<32) (hs:s<32) (ht:t<32):fieldV "I" ((wordN "I" x y z d s t v:Nat):Int) "rd" = (d:Int):=by
 have hx:x<128∧y<8∧z=0:=hx
 have l4:=pc_lt v 0 12
 show im ((wordN "I" x y z d s t v:Nat):Int) 7 31=_
 rw [show im ((wordN "I" x y z d s t v:Nat):Int) 7 31=_ from im_fld _ 7 5]
 unfold fld
 rw [Nat.shiftRight_eq_div_pow,show wordN "I" x y z d s t v=pk [(7,x),(5,d),(3,y),(5,s),(12,pcN v 0 12)] from rfl]
 simp only [pk]; omega
theorem back_I_rs1 {x y z d s t:Nat} {v:Int} (hx:xyzOk "I" x y z) (hd:d<32) (hs:s<32) (ht:t<32):fieldV "I" ((wordN "I" x y z d s t v:Nat):Int) "rs1" = (s:Int):=by
 have hx:x<128∧y<8∧z=0:=hx
 have l4:=pc_lt v 0 12
 show im ((wordN "I" x y z d s t v:Nat):Int) 15 31=_
 rw [show im ((wordN "I" x y z d s t v:Nat):Int) 15 31=_ from im_fld _ 15 5]
 unfold fld
 rw [Nat.shiftRight_eq_div_pow,show wordN "I" x y z d s t v=pk [(7,x),(5,d),(3,y),(5,s),(12,pcN v 0 12)] from rfl]
 simp only [pk]; omega
theorem back_H_rd {x y z d s t:Nat} {v:Int} (hx:xyzOk "H" x y z) (hd:d<32) (hs:s<32) (ht:t<32):fieldV "H" ((wordN "H" x y z d s t v:Nat):Int) "rd" = (d:Int):=by
 have hx:x<128∧y<8∧z<128:=hx
 have l4:=pc_lt v 0 5
 show im ((wordN "H" x y z d s t v:Nat):Int) 7 31=_
 rw [show im ((wordN "H" x y z d s t v:Nat):Int) 7 31=_ from im_fld _ 7 5]
 unfold fld
 rw [Nat.shiftRight_eq_div_pow,show wordN "H" x y z d s t v=pk [(7,x),(5,d),(3,y),(5,s),(5,pcN v 0 5),(7,z)] from rfl]
 simp only [pk]; omega
theorem back_H_rs1 {x y z d s t:Nat} {v:Int} (hx:xyzOk "H" x y z) (hd:d<32) (hs:s<32) (ht:t<32):fieldV "H" ((wordN "H" x y z d s t v:Nat):Int) "rs1" = (s:Int):=by
 have hx:x<128∧y<8∧z<128:=hx
 have l4:=pc_lt v 0 5
 show im ((wordN "H" x y z d s t v:Nat):Int) 15 31=_
 rw [show im ((wordN "H" x y z d s t v:Nat):Int) 15 31=_ from im_fld _ 15 5]
 unfold fld
 rw [Nat.shiftRight_eq_div_pow,show wordN "H" x y z d s t v=pk [(7,x),(5,d),(3,y),(5,s),(5,pcN v 0 5),(7,z)] from rfl]
 simp only [pk]; omega
theorem back_S_rs1 {x y z d s t:Nat} {v:Int} (hx:xyzOk "S" x y z) (hd:d<32) (hs:s<32) (ht:t<32):fieldV "S" ((wordN "S" x y z d s t v:Nat):Int) "rs1" = (s:Int):=by
 have hx:x<128∧y<8∧z=0:=hx
 have l1:=pc_lt v 0 5
 have l5:=pc_lt v 5 7
 show im ((wordN "S" x y z d s t v:Nat):Int) 15 31=_
 rw [show im ((wordN "S" x y z d s t v:Nat):Int) 15 31=_ from im_fld _ 15 5]
 unfold fld
 rw [Nat.shiftRight_eq_div_pow,show wordN "S" x y z d s t v=pk [(7,x),(5,pcN v 0 5),(3,y),(5,s),(5,t),(7,pcN v 5 7)] from rfl]
 simp only [pk]; omega
theorem back_S_rs2 {x y z d s t:Nat} {v:Int} (hx:xyzOk "S" x y z) (hd:d<32) (hs:s<32) (ht:t<32):fieldV "S" ((wordN "S" x y z d s t v:Nat):Int) "rs2" = (t:Int):=by
 have hx:x<128∧y<8∧z=0:=hx
 have l1:=pc_lt v 0 5
 have l5:=pc_lt v 5 7
 show im ((wordN "S" x y z d s t v:Nat):Int) 20 31=_
 rw [show im ((wordN "S" x y z d s t v:Nat):Int) 20 31=_ from im_fld _ 20 5]
 unfold fld
 rw [Nat.shiftRight_eq_div_pow,show wordN "S" x y z d s t v=pk [(7,x),(5,pcN v 0 5),(3,y),(5,s),(5,t),(7,pcN v 5 7)] from rfl]
 simp only [pk]; omega
theorem back_B_rs1 {x y z d s t:Nat} {v:Int} (hx:xyzOk "B" x y z) (hd:d<32) (hs:s<32) (ht:t<32):fieldV "B" ((wordN "B" x y z d s t v:Nat):Int) "rs1" = (s:Int):=by
 have hx:x<128∧y<8∧z=0:=hx
 have l1:=pc_lt v 11 1
 have l2:=pc_lt v 1 4
 have l6:=pc_lt v 5 6
 have l7:=pc_lt v 12 1
 show im ((wordN "B" x y z d s t v:Nat):Int) 15 31=_
 rw [show im ((wordN "B" x y z d s t v:Nat):Int) 15 31=_ from im_fld _ 15 5]
 unfold fld
 rw [Nat.shiftRight_eq_div_pow,show wordN "B" x y z d s t v=pk [(7,x),(1,pcN v 11 1),(4,pcN v 1 4),(3,y),(5,s),(5,t),(6,pcN v 5 6),(1,pcN v 12 1)] from rfl]
 simp only [pk]; omega
theorem back_B_rs2 {x y z d s t:Nat} {v:Int} (hx:xyzOk "B" x y z) (hd:d<32) (hs:s<32) (ht:t<32):fieldV "B" ((wordN "B" x y z d s t v:Nat):Int) "rs2" = (t:Int):=by
 have hx:x<128∧y<8∧z=0:=hx
 have l1:=pc_lt v 11 1
 have l2:=pc_lt v 1 4
 have l6:=pc_lt v 5 6
 have l7:=pc_lt v 12 1
 show im ((wordN "B" x y z d s t v:Nat):Int) 20 31=_
 rw [show im ((wordN "B" x y z d s t v:Nat):Int) 20 31=_ from im_fld _ 20 5]
 unfold fld
 rw [Nat.shiftRight_eq_div_pow,show wordN "B" x y z d s t v=pk [(7,x),(1,pcN v 11 1),(4,pcN v 1 4),(3,y),(5,s),(5,t),(6,pcN v 5 6),(1,pcN v 12 1)] from rfl]
 simp only [pk]; omega
theorem back_U_rd {x y z d s t:Nat} {v:Int} (hx:xyzOk "U" x y z) (hd:d<32) (hs:s<32) (ht:t<32):fieldV "U" ((wordN "U" x y z d s t v:Nat):Int) "rd" = (d:Int):=by
 have hx:x<128∧y=0∧z=0:=hx
 have l2:=pc_lt v 0 20
 show im ((wordN "U" x y z d s t v:Nat):Int) 7 31=_
 rw [show im ((wordN "U" x y z d s t v:Nat):Int) 7 31=_ from im_fld _ 7 5]
 unfold fld
 rw [Nat.shiftRight_eq_div_pow,show wordN "U" x y z d s t v=pk [(7,x),(5,d),(20,pcN v 0 20)] from rfl]
 simp only [pk]; omega
theorem back_J_rd {x y z d s t:Nat} {v:Int} (hx:xyzOk "J" x y z) (hd:d<32) (hs:s<32) (ht:t<32):fieldV "J" ((wordN "J" x y z d s t v:Nat):Int) "rd" = (d:Int):=by
 have hx:x<128∧y=0∧z=0:=hx
 have l2:=pc_lt v 12 8
 have l3:=pc_lt v 11 1
 have l4:=pc_lt v 1 10
 have l5:=pc_lt v 20 1
 show im ((wordN "J" x y z d s t v:Nat):Int) 7 31=_
 rw [show im ((wordN "J" x y z d s t v:Nat):Int) 7 31=_ from im_fld _ 7 5]
 unfold fld
 rw [Nat.shiftRight_eq_div_pow,show wordN "J" x y z d s t v=pk [(7,x),(5,d),(8,pcN v 12 8),(1,pcN v 11 1),(10,pcN v 1 10),(1,pcN v 20 1)] from rfl]
 simp only [pk]; omega
theorem immB_I {W:Nat} (hW:W<4294967296) {v:Int} (h1 : -2048≤v) (h2:v<2048) (h3:v % 1=0) (g4:fld W 20 12=pcN v 0 12):immV "I" (W:Int)=v:=by
 rw [imm_I hW,show segsF "I" = seg 20 0 12 from rfl]
 rw [seg_gath]
 rw [g4]
 have c4:=pc_eq v 0 12
 have tb:(W >>> 31=1)↔pcN v 0 12 / 2 ^ 11=1:=by rw [← g4,← sh_top hW 20 12 rfl,top_eq]
 by_cases q:W >>> 31=1
 ·rw [if_pos q]; have q:=tb.mp q; omega
 ·rw [if_neg q]; have q:=fun z=>q (tb.mpr z); omega
theorem immB_H {W:Nat} (hW:W<4294967296) {v:Int} (h1:0≤v) (h2:v<32) (h3:v % 1=0) (g4:fld W 20 5=pcN v 0 5):immV "H" (W:Int)=v:=by
 rw [imm_H W,show segsF "H" = seg 20 0 5 from rfl]
 rw [seg_gath]
 rw [g4]
 have c4:=pc_eq v 0 5
 omega
theorem immB_S {W:Nat} (hW:W<4294967296) {v:Int} (h1 : -2048≤v) (h2:v<2048) (h3:v % 1=0) (g1:fld W 7 5=pcN v 0 5) (g5:fld W 25 7=pcN v 5 7):immV "S" (W:Int)=v:=by
 rw [imm_S hW,show segsF "S" = seg 7 0 5++seg 25 5 7 from rfl]
 rw [gath_app,seg_gath,gath_seg]
 rw [g1,g5]
 have c1:=pc_eq v 0 5
 have c5:=pc_eq v 5 7
 have tb:(W >>> 31=1)↔pcN v 5 7 / 2 ^ 6=1:=by rw [← g5,← sh_top hW 25 7 rfl,top_eq]
 by_cases q:W >>> 31=1
 ·rw [if_pos q]; have q:=tb.mp q; omega
 ·rw [if_neg q]; have q:=fun z=>q (tb.mpr z); omega
theorem immB_B {W:Nat} (hW:W<4294967296) {v:Int} (h1 : -4096≤v) (h2:v<4096) (h3:v % 2=0) (g1:fld W 7 1=pcN v 11 1) (g2:fld W 8 4=pcN v 1 4) (g6:fld W 25 6=pcN v 5 6) (g7:fld W 31 1=pcN v 12 1):immV "B" (W:Int)=v:=by
 rw [imm_B hW,show segsF "B" = ((seg 7 11 1++seg 8 1 4)++seg 25 5 6)++seg 31 12 1 from rfl]
 rw [gath_app,gath_app,gath_app,seg_gath,gath_seg,gath_seg,gath_seg]
 rw [g1,g2,g6,g7]
 have c1:=pc_eq v 11 1
 have c2:=pc_eq v 1 4
 have c6:=pc_eq v 5 6
 have c7:=pc_eq v 12 1
 have m12:=mod_split v 12 1
 have m11:=mod_split v 11 1
 have m5:=mod_split v 5 6
 have m1:=mod_split v 1 4
 have d1:=pc_lt v 11 1
 have d2:=pc_lt v 1 4
 have d6:=pc_lt v 5 6
 have d7:=pc_lt v 12 1
 rw [← pc_eq v 12 1] at m12
 rw [← pc_eq v 11 1] at m11
 rw [← pc_eq v 5 6] at m5
 rw [← pc_eq v 1 4] at m1
 clear c1
 clear c2
 clear c6
 clear c7
 generalize pcN v 11 1=a1 at *
 generalize pcN v 1 4=a2 at *
 generalize pcN v 5 6=a6 at *
 generalize pcN v 12 1=a7 at *
 simp only [Nat.reduceAdd] at m12 m11 m5 m1
 have tb:(W >>> 31=1)↔a7=1:=by rw [← g7,sh_top hW 31 1 rfl]
 by_cases q:W >>> 31=1
 ·rw [if_pos q]; have q:=tb.mp q; omega
 ·rw [if_neg q]; have q:=fun z=>q (tb.mpr z); omega
theorem immB_U {W:Nat} (hW:W<4294967296) {v:Int} (h1:0≤v) (h2:v<1048576) (h3:v % 1=0) (g2:fld W 12 20=pcN v 0 20):immV "U" (W:Int)=v:=by
 rw [imm_U hW,show segsF "U" = seg 12 0 20 from rfl]
 rw [seg_gath]
 rw [g2]
 have c2:=pc_eq v 0 20
 omega
theorem immB_J {W:Nat} (hW:W<4294967296) {v:Int} (h1 : -1048576≤v) (h2:v<1048576) (h3:v % 2=0) (g2:fld W 12 8=pcN v 12 8) (g3:fld W 20 1=pcN v 11 1) (g4:fld W 21 10=pcN v 1 10) (g5:fld W 31 1=pcN v 20 1):immV "J" (W:Int)=v:=by
 rw [imm_J hW,show segsF "J" = ((seg 12 12 8++seg 20 11 1)++seg 21 1 10)++seg 31 20 1 from rfl]
 rw [gath_app,gath_app,gath_app,seg_gath,gath_seg,gath_seg,gath_seg]
 rw [g2,g3,g4,g5]
 have c2:=pc_eq v 12 8
 have c3:=pc_eq v 11 1
 have c4:=pc_eq v 1 10
 have c5:=pc_eq v 20 1
 have m20:=mod_split v 20 1
 have m12:=mod_split v 12 8
 have m11:=mod_split v 11 1
 have m1:=mod_split v 1 10
 have d2:=pc_lt v 12 8
 have d3:=pc_lt v 11 1
 have d4:=pc_lt v 1 10
 have d5:=pc_lt v 20 1
 rw [← pc_eq v 20 1] at m20
 rw [← pc_eq v 12 8] at m12
 rw [← pc_eq v 11 1] at m11
 rw [← pc_eq v 1 10] at m1
 clear c2
 clear c3
 clear c4
 clear c5
 generalize pcN v 12 8=a2 at *
 generalize pcN v 11 1=a3 at *
 generalize pcN v 1 10=a4 at *
 generalize pcN v 20 1=a5 at *
 simp only [Nat.reduceAdd] at m20 m12 m11 m1
 have tb:(W >>> 31=1)↔a5=1:=by rw [← g5,sh_top hW 31 1 rfl]
 by_cases q:W >>> 31=1
 ·rw [if_pos q]; have q:=tb.mp q; omega
 ·rw [if_neg q]; have q:=fun z=>q (tb.mpr z); omega
theorem immB_F {W:Nat} (hW:W<4294967296) {v:Int} (h1:0≤v) (h2:v<256) (h3:v % 1=0) (g4:fld W 20 8=pcN v 0 8):immV "F" (W:Int)=v:=by
 rw [imm_F W,show segsF "F" = seg 20 0 8 from rfl]
 rw [seg_gath]
 rw [g4]
 have c4:=pc_eq v 0 8
 omega
theorem layN_R {x y z d s t:Nat} {v:Int} (hx:xyzOk "R" x y z) (hd:d<32) (hs:s<32) (ht:t<32):lay 0 (layL "R" x y z d s t v)=((wordN "R" x y z d s t v:Nat):Int):=by
 have hx:x<128∧y<8∧z<128:=hx
 show lay 0 (down z 0 7++down t 0 5++down s 0 5++down y 0 3++down d 0 5++down x 0 7)=((pk [(7,x),(5,d),(3,y),(5,s),(5,t),(7,z)]:Nat):Int)
 rw [lay_app,lay_app,lay_app,lay_app,lay_app,lay_down,lay_down,lay_down,lay_down,lay_down,lay_down]
 simp only [pk]; omega
theorem layN_I {x y z d s t:Nat} {v:Int} (hx:xyzOk "I" x y z) (hd:d<32) (hs:s<32) (ht:t<32):lay 0 (layL "I" x y z d s t v)=((wordN "I" x y z d s t v:Nat):Int):=by
 have hx:x<128∧y<8∧z=0:=hx
 show lay 0 (down v 0 12++down s 0 5++down y 0 3++down d 0 5++down x 0 7)=((pk [(7,x),(5,d),(3,y),(5,s),(12,pcN v 0 12)]:Nat):Int)
 rw [lay_app,lay_app,lay_app,lay_app,lay_down,lay_down,lay_down,lay_down,lay_down]
 have c4:=pc_eq v 0 12
 simp only [pk]; omega
theorem layN_H {x y z d s t:Nat} {v:Int} (hx:xyzOk "H" x y z) (hd:d<32) (hs:s<32) (ht:t<32):lay 0 (layL "H" x y z d s t v)=((wordN "H" x y z d s t v:Nat):Int):=by
 have hx:x<128∧y<8∧z<128:=hx
 show lay 0 (down z 0 7++down v 0 5++down s 0 5++down y 0 3++down d 0 5++down x 0 7)=((pk [(7,x),(5,d),(3,y),(5,s),(5,pcN v 0 5),(7,z)]:Nat):Int)
 rw [lay_app,lay_app,lay_app,lay_app,lay_app,lay_down,lay_down,lay_down,lay_down,lay_down,lay_down]
 have c4:=pc_eq v 0 5
 simp only [pk]; omega
theorem layN_S {x y z d s t:Nat} {v:Int} (hx:xyzOk "S" x y z) (hd:d<32) (hs:s<32) (ht:t<32):lay 0 (layL "S" x y z d s t v)=((wordN "S" x y z d s t v:Nat):Int):=by
 have hx:x<128∧y<8∧z=0:=hx
 show lay 0 (down v 5 7++down t 0 5++down s 0 5++down y 0 3++down v 0 5++down x 0 7)=((pk [(7,x),(5,pcN v 0 5),(3,y),(5,s),(5,t),(7,pcN v 5 7)]:Nat):Int)
 rw [lay_app,lay_app,lay_app,lay_app,lay_app,lay_down,lay_down,lay_down,lay_down,lay_down,lay_down]
 have c1:=pc_eq v 0 5
 have c5:=pc_eq v 5 7
 simp only [pk]; omega
theorem layN_B {x y z d s t:Nat} {v:Int} (hx:xyzOk "B" x y z) (hd:d<32) (hs:s<32) (ht:t<32):lay 0 (layL "B" x y z d s t v)=((wordN "B" x y z d s t v:Nat):Int):=by
 have hx:x<128∧y<8∧z=0:=hx
 show lay 0 (down v 12 1++down v 5 6++down t 0 5++down s 0 5++down y 0 3++down v 1 4++down v 11 1++down x 0 7)=((pk [(7,x),(1,pcN v 11 1),(4,pcN v 1 4),(3,y),(5,s),(5,t),(6,pcN v 5 6),(1,pcN v 12 1)]:Nat):Int)
 rw [lay_app,lay_app,lay_app,lay_app,lay_app,lay_app,lay_app,lay_down,lay_down,lay_down,lay_down,lay_down,lay_down,lay_down,lay_down]
 have c1:=pc_eq v 11 1
 have c2:=pc_eq v 1 4
 have c6:=pc_eq v 5 6
 have c7:=pc_eq v 12 1
 simp only [pk]; omega
theorem layN_U {x y z d s t:Nat} {v:Int} (hx:xyzOk "U" x y z) (hd:d<32) (hs:s<32) (ht:t<32):lay 0 (layL "U" x y z d s t v)=((wordN "U" x y z d s t v:Nat):Int):=by
 have hx:x<128∧y=0∧z=0:=hx
 show lay 0 (down v 0 20++down d 0 5++down x 0 7)=((pk [(7,x),(5,d),(20,pcN v 0 20)]:Nat):Int)
 rw [lay_app,lay_app,lay_down,lay_down,lay_down]
 have c2:=pc_eq v 0 20
 simp only [pk]; omega
theorem layN_J {x y z d s t:Nat} {v:Int} (hx:xyzOk "J" x y z) (hd:d<32) (hs:s<32) (ht:t<32):lay 0 (layL "J" x y z d s t v)=((wordN "J" x y z d s t v:Nat):Int):=by
 have hx:x<128∧y=0∧z=0:=hx
 show lay 0 (down v 20 1++down v 1 10++down v 11 1++down v 12 8++down d 0 5++down x 0 7)=((pk [(7,x),(5,d),(8,pcN v 12 8),(1,pcN v 11 1),(10,pcN v 1 10),(1,pcN v 20 1)]:Nat):Int)
 rw [lay_app,lay_app,lay_app,lay_app,lay_app,lay_down,lay_down,lay_down,lay_down,lay_down,lay_down]
 have c2:=pc_eq v 12 8
 have c3:=pc_eq v 11 1
 have c4:=pc_eq v 1 10
 have c5:=pc_eq v 20 1
 simp only [pk]; omega
theorem layN_F {x y z d s t:Nat} {v:Int} (hx:xyzOk "F" x y z) (hd:d<32) (hs:s<32) (ht:t<32):lay 0 (layL "F" x y z d s t v)=((wordN "F" x y z d s t v:Nat):Int):=by
 have hx:x<128∧y<8∧z=0:=hx
 show lay 0 (down z 10 4++down v 0 8++down z 5 5++down y 0 3++down z 0 5++down x 0 7)=((pk [(7,x),(5,0),(3,y),(5,0),(8,pcN v 0 8),(4,0)]:Nat):Int)
 rw [lay_app,lay_app,lay_app,lay_app,lay_app,lay_down,lay_down,lay_down,lay_down,lay_down,lay_down]
 have c4:=pc_eq v 0 8
 simp only [pk]; omega
theorem layN_E {x y z d s t:Nat} {v:Int} (hx:xyzOk "E" x y z) (hd:d<32) (hs:s<32) (ht:t<32):lay 0 (layL "E" x y z d s t v)=((wordN "E" x y z d s t v:Nat):Int):=by
 have hx:x<128∧y=0∧z<33554432:=hx
 show lay 0 (down z 0 25++down x 0 7)=((pk [(7,x),(25,z)]:Nat):Int)
 rw [lay_app,lay_down,lay_down]
 simp only [pk]; omega
theorem chgN_I {B:Nat} (hB:B<4294967296) (v:Int):∃ X:Nat,X<4294967296∧bo (Builtin.bitAnd (Builtin.bitAnd (B:Int) (Builtin.bitNot (maskF "I"))) 4294967295) ((wordN "I" 0 0 0 0 0 0 v:Nat):Int)=(X:Int)∧(X:Int)=(B:Int) - Builtin.bitAnd (B:Int) (maskF "I")+((wordN "I" 0 0 0 0 0 0 v:Nat):Int)∧fld X 20 12=pcN v 0 12:=by
 have l4:=pc_lt v 0 12
 have eM:maskF "I" = ((4293918720:Nat):Int):=by kernel_rfl
 have eB:B=pk [(7,B / 2 ^ 0 % 2 ^ 7),(5,B / 2 ^ 7 % 2 ^ 5),(3,B / 2 ^ 12 % 2 ^ 3),(5,B / 2 ^ 15 % 2 ^ 5),(12,B / 2 ^ 20 % 2 ^ 12)]:=pk_cut hB [7,5,3,5,12] rfl
 have n_b0:B / 2 ^ 0 % 2 ^ 7<2 ^ 7:=Nat.mod_lt _ (Nat.two_pow_pos _)
 have n_b1:B / 2 ^ 7 % 2 ^ 5<2 ^ 5:=Nat.mod_lt _ (Nat.two_pow_pos _)
 have n_b2:B / 2 ^ 12 % 2 ^ 3<2 ^ 3:=Nat.mod_lt _ (Nat.two_pow_pos _)
 have n_b3:B / 2 ^ 15 % 2 ^ 5<2 ^ 5:=Nat.mod_lt _ (Nat.two_pow_pos _)
 have n_b4:B / 2 ^ 20 % 2 ^ 12<2 ^ 12:=Nat.mod_lt _ (Nat.two_pow_pos _)
 generalize B / 2 ^ 0 % 2 ^ 7=b0 at eB n_b0
 generalize B / 2 ^ 7 % 2 ^ 5=b1 at eB n_b1
 generalize B / 2 ^ 12 % 2 ^ 3=b2 at eB n_b2
 generalize B / 2 ^ 15 % 2 ^ 5=b3 at eB n_b3
 generalize B / 2 ^ 20 % 2 ^ 12=b4 at eB n_b4
 generalize hv4:pcN v 0 12=v4 at *
 subst eB
 have eA:pk [(7,b0),(5,b1),(3,b2),(5,b3),(12,b4)] &&& 4293918720=pk [(7,0),(5,0),(3,0),(5,0),(12,b4)]:=by
  rw [show (4293918720:Nat)=pk [(7,0),(5,0),(3,0),(5,0),(12,4095)] by decide +kernel]
  rw [pk_and (by trivial) (by trivial) (by trivial)]
  simp only [zand,Nat.and_zero]
  rw [show b4 &&& 4095=b4 from and_full 12 n_b4]
 have eC:pk [(7,b0),(5,b1),(3,b2),(5,b3),(12,b4)] - (pk [(7,b0),(5,b1),(3,b2),(5,b3),(12,b4)] &&& 4293918720)=pk [(7,b0),(5,b1),(3,b2),(5,b3),(12,0)]:=by rw [eA]; refine Nat.sub_eq_of_eq_add ?_; rw [pk_add (by trivial)]; simp only [zadd,Nat.zero_add,Nat.add_zero]
 have eW:wordN "I" 0 0 0 0 0 0 v=pk [(7,0),(5,0),(3,0),(5,0),(12,v4)]:=by rw [← hv4]; rfl
 rw [eW]
 have eX:pk [(7,b0),(5,b1),(3,b2),(5,b3),(12,0)] ||| pk [(7,0),(5,0),(3,0),(5,0),(12,v4)]=pk [(7,b0),(5,b1),(3,b2),(5,b3),(12,v4)]:=by
  rw [pk_or (by trivial) (by trivial) (by trivial)]
  simp only [zor,Nat.zero_or,Nat.or_zero]
 have eS:pk [(7,b0),(5,b1),(3,b2),(5,b3),(12,v4)]+pk [(7,0),(5,0),(3,0),(5,0),(12,b4)]=pk [(7,b0),(5,b1),(3,b2),(5,b3),(12,b4)]+pk [(7,0),(5,0),(3,0),(5,0),(12,v4)]:=by rw [pk_add (by trivial),pk_add (by trivial)]; simp only [zadd,Nat.zero_add,Nat.add_zero,Nat.add_comm]
 refine ⟨pk [(7,b0),(5,b1),(3,b2),(5,b3),(12,v4)],pk_lt32 (l:=[(7,b0),(5,b1),(3,b2),(5,b3),(12,v4)]) (by trivial) rfl,?_,?_,?_⟩
 ·rw [eM,and_not,and32 (by omega),eC]; unfold bo; rw [bitOr_nat,eX]
 ·rw [eM,bitAnd_nat,eA]; omega
 ·exact (fld_skip (k:=13) (by omega)).trans ((fld_skip (k:=8) (by omega)).trans ((fld_skip (k:=5) (by omega)).trans ((fld_skip (k:=0) (by omega)).trans (fld_head (by omega)))))
theorem chgN_H {B:Nat} (hB:B<4294967296) (v:Int):∃ X:Nat,X<4294967296∧bo (Builtin.bitAnd (Builtin.bitAnd (B:Int) (Builtin.bitNot (maskF "H"))) 4294967295) ((wordN "H" 0 0 0 0 0 0 v:Nat):Int)=(X:Int)∧(X:Int)=(B:Int) - Builtin.bitAnd (B:Int) (maskF "H")+((wordN "H" 0 0 0 0 0 0 v:Nat):Int)∧fld X 20 5=pcN v 0 5:=by
 have l4:=pc_lt v 0 5
 have eM:maskF "H" = ((32505856:Nat):Int):=by kernel_rfl
 have eB:B=pk [(7,B / 2 ^ 0 % 2 ^ 7),(5,B / 2 ^ 7 % 2 ^ 5),(3,B / 2 ^ 12 % 2 ^ 3),(5,B / 2 ^ 15 % 2 ^ 5),(5,B / 2 ^ 20 % 2 ^ 5),(7,B / 2 ^ 25 % 2 ^ 7)]:=pk_cut hB [7,5,3,5,5,7] rfl
 have n_b0:B / 2 ^ 0 % 2 ^ 7<2 ^ 7:=Nat.mod_lt _ (Nat.two_pow_pos _)
 have n_b1:B / 2 ^ 7 % 2 ^ 5<2 ^ 5:=Nat.mod_lt _ (Nat.two_pow_pos _)
 have n_b2:B / 2 ^ 12 % 2 ^ 3<2 ^ 3:=Nat.mod_lt _ (Nat.two_pow_pos _)
 have n_b3:B / 2 ^ 15 % 2 ^ 5<2 ^ 5:=Nat.mod_lt _ (Nat.two_pow_pos _)
 have n_b4:B / 2 ^ 20 % 2 ^ 5<2 ^ 5:=Nat.mod_lt _ (Nat.two_pow_pos _)
 have n_b5:B / 2 ^ 25 % 2 ^ 7<2 ^ 7:=Nat.mod_lt _ (Nat.two_pow_pos _)
 generalize B / 2 ^ 0 % 2 ^ 7=b0 at eB n_b0
 generalize B / 2 ^ 7 % 2 ^ 5=b1 at eB n_b1
 generalize B / 2 ^ 12 % 2 ^ 3=b2 at eB n_b2
 generalize B / 2 ^ 15 % 2 ^ 5=b3 at eB n_b3
 generalize B / 2 ^ 20 % 2 ^ 5=b4 at eB n_b4
 generalize B / 2 ^ 25 % 2 ^ 7=b5 at eB n_b5
 generalize hv4:pcN v 0 5=v4 at *
 subst eB
 have eA:pk [(7,b0),(5,b1),(3,b2),(5,b3),(5,b4),(7,b5)] &&& 32505856=pk [(7,0),(5,0),(3,0),(5,0),(5,b4),(7,0)]:=by
  rw [show (32505856:Nat)=pk [(7,0),(5,0),(3,0),(5,0),(5,31),(7,0)] by decide +kernel]
  rw [pk_and (by trivial) (by trivial) (by trivial)]
  simp only [zand,Nat.and_zero]
  rw [show b4 &&& 31=b4 from and_full 5 n_b4]
 have eC:pk [(7,b0),(5,b1),(3,b2),(5,b3),(5,b4),(7,b5)] - (pk [(7,b0),(5,b1),(3,b2),(5,b3),(5,b4),(7,b5)] &&& 32505856)=pk [(7,b0),(5,b1),(3,b2),(5,b3),(5,0),(7,b5)]:=by rw [eA]; refine Nat.sub_eq_of_eq_add ?_; rw [pk_add (by trivial)]; simp only [zadd,Nat.zero_add,Nat.add_zero]
 have eW:wordN "H" 0 0 0 0 0 0 v=pk [(7,0),(5,0),(3,0),(5,0),(5,v4),(7,0)]:=by rw [← hv4]; rfl
 rw [eW]
 have eX:pk [(7,b0),(5,b1),(3,b2),(5,b3),(5,0),(7,b5)] ||| pk [(7,0),(5,0),(3,0),(5,0),(5,v4),(7,0)]=pk [(7,b0),(5,b1),(3,b2),(5,b3),(5,v4),(7,b5)]:=by
  rw [pk_or (by trivial) (by trivial) (by trivial)]
  simp only [zor,Nat.zero_or,Nat.or_zero]
 have eS:pk [(7,b0),(5,b1),(3,b2),(5,b3),(5,v4),(7,b5)]+pk [(7,0),(5,0),(3,0),(5,0),(5,b4),(7,0)]=pk [(7,b0),(5,b1),(3,b2),(5,b3),(5,b4),(7,b5)]+pk [(7,0),(5,0),(3,0),(5,0),(5,v4),(7,0)]:=by rw [pk_add (by trivial),pk_add (by trivial)]; simp only [zadd,Nat.zero_add,Nat.add_zero,Nat.add_comm]
 refine ⟨pk [(7,b0),(5,b1),(3,b2),(5,b3),(5,v4),(7,b5)],pk_lt32 (l:=[(7,b0),(5,b1),(3,b2),(5,b3),(5,v4),(7,b5)]) (by trivial) rfl,?_,?_,?_⟩
 ·rw [eM,and_not,and32 (by omega),eC]; unfold bo; rw [bitOr_nat,eX]
 ·rw [eM,bitAnd_nat,eA]; omega
 ·exact (fld_skip (k:=13) (by omega)).trans ((fld_skip (k:=8) (by omega)).trans ((fld_skip (k:=5) (by omega)).trans ((fld_skip (k:=0) (by omega)).trans (fld_head (by omega)))))
theorem chgN_S {B:Nat} (hB:B<4294967296) (v:Int):∃ X:Nat,X<4294967296∧bo (Builtin.bitAnd (Builtin.bitAnd (B:Int) (Builtin.bitNot (maskF "S"))) 4294967295) ((wordN "S" 0 0 0 0 0 0 v:Nat):Int)=(X:Int)∧(X:Int)=(B:Int) - Builtin.bitAnd (B:Int) (maskF "S")+((wordN "S" 0 0 0 0 0 0 v:Nat):Int)∧fld X 7 5=pcN v 0 5∧fld X 25 7=pcN v 5 7:=by
 have l1:=pc_lt v 0 5
 have l5:=pc_lt v 5 7
 have eM:maskF "S" = ((4261416832:Nat):Int):=by kernel_rfl
 have eB:B=pk [(7,B / 2 ^ 0 % 2 ^ 7),(5,B / 2 ^ 7 % 2 ^ 5),(3,B / 2 ^ 12 % 2 ^ 3),(5,B / 2 ^ 15 % 2 ^ 5),(5,B / 2 ^ 20 % 2 ^ 5),(7,B / 2 ^ 25 % 2 ^ 7)]:=pk_cut hB [7,5,3,5,5,7] rfl
 have n_b0:B / 2 ^ 0 % 2 ^ 7<2 ^ 7:=Nat.mod_lt _ (Nat.two_pow_pos _)
 have n_b1:B / 2 ^ 7 % 2 ^ 5<2 ^ 5:=Nat.mod_lt _ (Nat.two_pow_pos _)
 have n_b2:B / 2 ^ 12 % 2 ^ 3<2 ^ 3:=Nat.mod_lt _ (Nat.two_pow_pos _)
 have n_b3:B / 2 ^ 15 % 2 ^ 5<2 ^ 5:=Nat.mod_lt _ (Nat.two_pow_pos _)
 have n_b4:B / 2 ^ 20 % 2 ^ 5<2 ^ 5:=Nat.mod_lt _ (Nat.two_pow_pos _)
 have n_b5:B / 2 ^ 25 % 2 ^ 7<2 ^ 7:=Nat.mod_lt _ (Nat.two_pow_pos _)
 generalize B / 2 ^ 0 % 2 ^ 7=b0 at eB n_b0
 generalize B / 2 ^ 7 % 2 ^ 5=b1 at eB n_b1
 generalize B / 2 ^ 12 % 2 ^ 3=b2 at eB n_b2
 generalize B / 2 ^ 15 % 2 ^ 5=b3 at eB n_b3
 generalize B / 2 ^ 20 % 2 ^ 5=b4 at eB n_b4
 generalize B / 2 ^ 25 % 2 ^ 7=b5 at eB n_b5
 generalize hv1:pcN v 0 5=v1 at *
 generalize hv5:pcN v 5 7=v5 at *
 subst eB
 have eA:pk [(7,b0),(5,b1),(3,b2),(5,b3),(5,b4),(7,b5)] &&& 4261416832=pk [(7,0),(5,b1),(3,0),(5,0),(5,0),(7,b5)]:=by
  rw [show (4261416832:Nat)=pk [(7,0),(5,31),(3,0),(5,0),(5,0),(7,127)] by decide +kernel]
  rw [pk_and (by trivial) (by trivial) (by trivial)]
  simp only [zand,Nat.and_zero]
  rw [show b1 &&& 31=b1 from and_full 5 n_b1]
  rw [show b5 &&& 127=b5 from and_full 7 n_b5]
 have eC:pk [(7,b0),(5,b1),(3,b2),(5,b3),(5,b4),(7,b5)] - (pk [(7,b0),(5,b1),(3,b2),(5,b3),(5,b4),(7,b5)] &&& 4261416832)=pk [(7,b0),(5,0),(3,b2),(5,b3),(5,b4),(7,0)]:=by rw [eA]; refine Nat.sub_eq_of_eq_add ?_; rw [pk_add (by trivial)]; simp only [zadd,Nat.zero_add,Nat.add_zero]
 have eW:wordN "S" 0 0 0 0 0 0 v=pk [(7,0),(5,v1),(3,0),(5,0),(5,0),(7,v5)]:=by rw [← hv1]; rw [← hv5]; rfl
 rw [eW]
 have eX:pk [(7,b0),(5,0),(3,b2),(5,b3),(5,b4),(7,0)] ||| pk [(7,0),(5,v1),(3,0),(5,0),(5,0),(7,v5)]=pk [(7,b0),(5,v1),(3,b2),(5,b3),(5,b4),(7,v5)]:=by
  rw [pk_or (by trivial) (by trivial) (by trivial)]
  simp only [zor,Nat.zero_or,Nat.or_zero]
 have eS:pk [(7,b0),(5,v1),(3,b2),(5,b3),(5,b4),(7,v5)]+pk [(7,0),(5,b1),(3,0),(5,0),(5,0),(7,b5)]=pk [(7,b0),(5,b1),(3,b2),(5,b3),(5,b4),(7,b5)]+pk [(7,0),(5,v1),(3,0),(5,0),(5,0),(7,v5)]:=by rw [pk_add (by trivial),pk_add (by trivial)]; simp only [zadd,Nat.zero_add,Nat.add_zero,Nat.add_comm]
 refine ⟨pk [(7,b0),(5,v1),(3,b2),(5,b3),(5,b4),(7,v5)],pk_lt32 (l:=[(7,b0),(5,v1),(3,b2),(5,b3),(5,b4),(7,v5)]) (by trivial) rfl,?_,?_,?_,?_⟩
 ·rw [eM,and_not,and32 (by omega),eC]; unfold bo; rw [bitOr_nat,eX]
 ·rw [eM,bitAnd_nat,eA]; omega
 ·exact (fld_skip (k:=0) (by omega)).trans (fld_head (by omega))
 ·exact (fld_skip (k:=18) (by omega)).trans ((fld_skip (k:=13) (by omega)).trans ((fld_skip (k:=10) (by omega)).trans ((fld_skip (k:=5) (by omega)).trans ((fld_skip (k:=0) (by omega)).trans (fld_head (by omega))))))
theorem chgN_B {B:Nat} (hB:B<4294967296) (v:Int):∃ X:Nat,X<4294967296∧bo (Builtin.bitAnd (Builtin.bitAnd (B:Int) (Builtin.bitNot (maskF "B"))) 4294967295) ((wordN "B" 0 0 0 0 0 0 v:Nat):Int)=(X:Int)∧(X:Int)=(B:Int) - Builtin.bitAnd (B:Int) (maskF "B")+((wordN "B" 0 0 0 0 0 0 v:Nat):Int)∧fld X 7 1=pcN v 11 1∧fld X 8 4=pcN v 1 4∧fld X 25 6=pcN v 5 6∧fld X 31 1=pcN v 12 1:=by
 have l1:=pc_lt v 11 1
 have l2:=pc_lt v 1 4
 have l6:=pc_lt v 5 6
 have l7:=pc_lt v 12 1
 have eM:maskF "B" = ((4261416832:Nat):Int):=by kernel_rfl
 have eB:B=pk [(7,B / 2 ^ 0 % 2 ^ 7),(1,B / 2 ^ 7 % 2 ^ 1),(4,B / 2 ^ 8 % 2 ^ 4),(3,B / 2 ^ 12 % 2 ^ 3),(5,B / 2 ^ 15 % 2 ^ 5),(5,B / 2 ^ 20 % 2 ^ 5),(6,B / 2 ^ 25 % 2 ^ 6),(1,B / 2 ^ 31 % 2 ^ 1)]:=pk_cut hB [7,1,4,3,5,5,6,1] rfl
 have n_b0:B / 2 ^ 0 % 2 ^ 7<2 ^ 7:=Nat.mod_lt _ (Nat.two_pow_pos _)
 have n_b1:B / 2 ^ 7 % 2 ^ 1<2 ^ 1:=Nat.mod_lt _ (Nat.two_pow_pos _)
 have n_b2:B / 2 ^ 8 % 2 ^ 4<2 ^ 4:=Nat.mod_lt _ (Nat.two_pow_pos _)
 have n_b3:B / 2 ^ 12 % 2 ^ 3<2 ^ 3:=Nat.mod_lt _ (Nat.two_pow_pos _)
 have n_b4:B / 2 ^ 15 % 2 ^ 5<2 ^ 5:=Nat.mod_lt _ (Nat.two_pow_pos _)
 have n_b5:B / 2 ^ 20 % 2 ^ 5<2 ^ 5:=Nat.mod_lt _ (Nat.two_pow_pos _)
 have n_b6:B / 2 ^ 25 % 2 ^ 6<2 ^ 6:=Nat.mod_lt _ (Nat.two_pow_pos _)
 have n_b7:B / 2 ^ 31 % 2 ^ 1<2 ^ 1:=Nat.mod_lt _ (Nat.two_pow_pos _)
 generalize B / 2 ^ 0 % 2 ^ 7=b0 at eB n_b0
 generalize B / 2 ^ 7 % 2 ^ 1=b1 at eB n_b1
 generalize B / 2 ^ 8 % 2 ^ 4=b2 at eB n_b2
 generalize B / 2 ^ 12 % 2 ^ 3=b3 at eB n_b3
 generalize B / 2 ^ 15 % 2 ^ 5=b4 at eB n_b4
 generalize B / 2 ^ 20 % 2 ^ 5=b5 at eB n_b5
 generalize B / 2 ^ 25 % 2 ^ 6=b6 at eB n_b6
 generalize B / 2 ^ 31 % 2 ^ 1=b7 at eB n_b7
 generalize hv1:pcN v 11 1=v1 at *
 generalize hv2:pcN v 1 4=v2 at *
 generalize hv6:pcN v 5 6=v6 at *
 generalize hv7:pcN v 12 1=v7 at *
 subst eB
 have eA:pk [(7,b0),(1,b1),(4,b2),(3,b3),(5,b4),(5,b5),(6,b6),(1,b7)] &&& 4261416832=pk [(7,0),(1,b1),(4,b2),(3,0),(5,0),(5,0),(6,b6),(1,b7)]:=by
  rw [show (4261416832:Nat)=pk [(7,0),(1,1),(4,15),(3,0),(5,0),(5,0),(6,63),(1,1)] by decide +kernel]
  rw [pk_and (by trivial) (by trivial) (by trivial)]
  simp only [zand,Nat.and_zero]
  rw [show b1 &&& 1=b1 from and_full 1 n_b1]
  rw [show b2 &&& 15=b2 from and_full 4 n_b2]
  rw [show b6 &&& 63=b6 from and_full 6 n_b6]
  rw [show b7 &&& 1=b7 from and_full 1 n_b7]
 have eC:pk [(7,b0),(1,b1),(4,b2),(3,b3),(5,b4),(5,b5),(6,b6),(1,b7)] - (pk [(7,b0),(1,b1),(4,b2),(3,b3),(5,b4),(5,b5),(6,b6),(1,b7)] &&& 4261416832)=pk [(7,b0),(1,0),(4,0),(3,b3),(5,b4),(5,b5),(6,0),(1,0)]:=by rw [eA]; refine Nat.sub_eq_of_eq_add ?_; rw [pk_add (by trivial)]; simp only [zadd,Nat.zero_add,Nat.add_zero]
 have eW:wordN "B" 0 0 0 0 0 0 v=pk [(7,0),(1,v1),(4,v2),(3,0),(5,0),(5,0),(6,v6),(1,v7)]:=by rw [← hv1]; rw [← hv2]; rw [← hv6]; rw [← hv7]; rfl
 rw [eW]
 have eX:pk [(7,b0),(1,0),(4,0),(3,b3),(5,b4),(5,b5),(6,0),(1,0)] ||| pk [(7,0),(1,v1),(4,v2),(3,0),(5,0),(5,0),(6,v6),(1,v7)]=pk [(7,b0),(1,v1),(4,v2),(3,b3),(5,b4),(5,b5),(6,v6),(1,v7)]:=by
  rw [pk_or (by trivial) (by trivial) (by trivial)]
  simp only [zor,Nat.zero_or,Nat.or_zero]
 have eS:pk [(7,b0),(1,v1),(4,v2),(3,b3),(5,b4),(5,b5),(6,v6),(1,v7)]+pk [(7,0),(1,b1),(4,b2),(3,0),(5,0),(5,0),(6,b6),(1,b7)]=pk [(7,b0),(1,b1),(4,b2),(3,b3),(5,b4),(5,b5),(6,b6),(1,b7)]+pk [(7,0),(1,v1),(4,v2),(3,0),(5,0),(5,0),(6,v6),(1,v7)]:=by rw [pk_add (by trivial),pk_add (by trivial)]; simp only [zadd,Nat.zero_add,Nat.add_zero,Nat.add_comm]
 refine ⟨pk [(7,b0),(1,v1),(4,v2),(3,b3),(5,b4),(5,b5),(6,v6),(1,v7)],pk_lt32 (l:=[(7,b0),(1,v1),(4,v2),(3,b3),(5,b4),(5,b5),(6,v6),(1,v7)]) (by trivial) rfl,?_,?_,?_,?_,?_,?_⟩
 ·rw [eM,and_not,and32 (by omega),eC]; unfold bo; rw [bitOr_nat,eX]
 ·rw [eM,bitAnd_nat,eA]; omega
 ·exact (fld_skip (k:=0) (by omega)).trans (fld_head (by omega))
 ·exact (fld_skip (k:=1) (by omega)).trans ((fld_skip (k:=0) (by omega)).trans (fld_head (by omega)))
 ·exact (fld_skip (k:=18) (by omega)).trans ((fld_skip (k:=17) (by omega)).trans ((fld_skip (k:=13) (by omega)).trans ((fld_skip (k:=10) (by omega)).trans ((fld_skip (k:=5) (by omega)).trans ((fld_skip (k:=0) (by omega)).trans (fld_head (by omega)))))))
 ·exact (fld_skip (k:=24) (by omega)).trans ((fld_skip (k:=23) (by omega)).trans ((fld_skip (k:=19) (by omega)).trans ((fld_skip (k:=16) (by omega)).trans ((fld_skip (k:=11) (by omega)).trans ((fld_skip (k:=6) (by omega)).trans ((fld_skip (k:=0) (by omega)).trans (fld_head (by omega))))))))
theorem chgN_U {B:Nat} (hB:B<4294967296) (v:Int):∃ X:Nat,X<4294967296∧bo (Builtin.bitAnd (Builtin.bitAnd (B:Int) (Builtin.bitNot (maskF "U"))) 4294967295) ((wordN "U" 0 0 0 0 0 0 v:Nat):Int)=(X:Int)∧(X:Int)=(B:Int) - Builtin.bitAnd (B:Int) (maskF "U")+((wordN "U" 0 0 0 0 0 0 v:Nat):Int)∧fld X 12 20=pcN v 0 20:=by
 have l2:=pc_lt v 0 20
 have eM:maskF "U" = ((4294963200:Nat):Int):=by kernel_rfl
 have eB:B=pk [(7,B / 2 ^ 0 % 2 ^ 7),(5,B / 2 ^ 7 % 2 ^ 5),(20,B / 2 ^ 12 % 2 ^ 20)]:=pk_cut hB [7,5,20] rfl
 have n_b0:B / 2 ^ 0 % 2 ^ 7<2 ^ 7:=Nat.mod_lt _ (Nat.two_pow_pos _)
 have n_b1:B / 2 ^ 7 % 2 ^ 5<2 ^ 5:=Nat.mod_lt _ (Nat.two_pow_pos _)
 have n_b2:B / 2 ^ 12 % 2 ^ 20<2 ^ 20:=Nat.mod_lt _ (Nat.two_pow_pos _)
 generalize B / 2 ^ 0 % 2 ^ 7=b0 at eB n_b0
 generalize B / 2 ^ 7 % 2 ^ 5=b1 at eB n_b1
 generalize B / 2 ^ 12 % 2 ^ 20=b2 at eB n_b2
 generalize hv2:pcN v 0 20=v2 at *
 subst eB
 have eA:pk [(7,b0),(5,b1),(20,b2)] &&& 4294963200=pk [(7,0),(5,0),(20,b2)]:=by
  rw [show (4294963200:Nat)=pk [(7,0),(5,0),(20,1048575)] by decide +kernel]
  rw [pk_and (by trivial) (by trivial) (by trivial)]
  simp only [zand,Nat.and_zero]
  rw [show b2 &&& 1048575=b2 from and_full 20 n_b2]
 have eC:pk [(7,b0),(5,b1),(20,b2)] - (pk [(7,b0),(5,b1),(20,b2)] &&& 4294963200)=pk [(7,b0),(5,b1),(20,0)]:=by rw [eA]; refine Nat.sub_eq_of_eq_add ?_; rw [pk_add (by trivial)]; simp only [zadd,Nat.zero_add,Nat.add_zero]
 have eW:wordN "U" 0 0 0 0 0 0 v=pk [(7,0),(5,0),(20,v2)]:=by rw [← hv2]; rfl
 rw [eW]
 have eX:pk [(7,b0),(5,b1),(20,0)] ||| pk [(7,0),(5,0),(20,v2)]=pk [(7,b0),(5,b1),(20,v2)]:=by
  rw [pk_or (by trivial) (by trivial) (by trivial)]
  simp only [zor,Nat.zero_or,Nat.or_zero]
 have eS:pk [(7,b0),(5,b1),(20,v2)]+pk [(7,0),(5,0),(20,b2)]=pk [(7,b0),(5,b1),(20,b2)]+pk [(7,0),(5,0),(20,v2)]:=by rw [pk_add (by trivial),pk_add (by trivial)]; simp only [zadd,Nat.zero_add,Nat.add_zero,Nat.add_comm]
 refine ⟨pk [(7,b0),(5,b1),(20,v2)],pk_lt32 (l:=[(7,b0),(5,b1),(20,v2)]) (by trivial) rfl,?_,?_,?_⟩
 ·rw [eM,and_not,and32 (by omega),eC]; unfold bo; rw [bitOr_nat,eX]
 ·rw [eM,bitAnd_nat,eA]; omega
 ·exact (fld_skip (k:=5) (by omega)).trans ((fld_skip (k:=0) (by omega)).trans (fld_head (by omega)))
theorem chgN_J {B:Nat} (hB:B<4294967296) (v:Int):∃ X:Nat,X<4294967296∧bo (Builtin.bitAnd (Builtin.bitAnd (B:Int) (Builtin.bitNot (maskF "J"))) 4294967295) ((wordN "J" 0 0 0 0 0 0 v:Nat):Int)=(X:Int)∧(X:Int)=(B:Int) - Builtin.bitAnd (B:Int) (maskF "J")+((wordN "J" 0 0 0 0 0 0 v:Nat):Int)∧fld X 12 8=pcN v 12 8∧fld X 20 1=pcN v 11 1∧fld X 21 10=pcN v 1 10∧fld X 31 1=pcN v 20 1:=by
 have l2:=pc_lt v 12 8
 have l3:=pc_lt v 11 1
 have l4:=pc_lt v 1 10
 have l5:=pc_lt v 20 1
 have eM:maskF "J" = ((4294963200:Nat):Int):=by kernel_rfl
 have eB:B=pk [(7,B / 2 ^ 0 % 2 ^ 7),(5,B / 2 ^ 7 % 2 ^ 5),(8,B / 2 ^ 12 % 2 ^ 8),(1,B / 2 ^ 20 % 2 ^ 1),(10,B / 2 ^ 21 % 2 ^ 10),(1,B / 2 ^ 31 % 2 ^ 1)]:=pk_cut hB [7,5,8,1,10,1] rfl
 have n_b0:B / 2 ^ 0 % 2 ^ 7<2 ^ 7:=Nat.mod_lt _ (Nat.two_pow_pos _)
 have n_b1:B / 2 ^ 7 % 2 ^ 5<2 ^ 5:=Nat.mod_lt _ (Nat.two_pow_pos _)
 have n_b2:B / 2 ^ 12 % 2 ^ 8<2 ^ 8:=Nat.mod_lt _ (Nat.two_pow_pos _)
 have n_b3:B / 2 ^ 20 % 2 ^ 1<2 ^ 1:=Nat.mod_lt _ (Nat.two_pow_pos _)
 have n_b4:B / 2 ^ 21 % 2 ^ 10<2 ^ 10:=Nat.mod_lt _ (Nat.two_pow_pos _)
 have n_b5:B / 2 ^ 31 % 2 ^ 1<2 ^ 1:=Nat.mod_lt _ (Nat.two_pow_pos _)
 generalize B / 2 ^ 0 % 2 ^ 7=b0 at eB n_b0
 generalize B / 2 ^ 7 % 2 ^ 5=b1 at eB n_b1
 generalize B / 2 ^ 12 % 2 ^ 8=b2 at eB n_b2
 generalize B / 2 ^ 20 % 2 ^ 1=b3 at eB n_b3
 generalize B / 2 ^ 21 % 2 ^ 10=b4 at eB n_b4
 generalize B / 2 ^ 31 % 2 ^ 1=b5 at eB n_b5
 generalize hv2:pcN v 12 8=v2 at *
 generalize hv3:pcN v 11 1=v3 at *
 generalize hv4:pcN v 1 10=v4 at *
 generalize hv5:pcN v 20 1=v5 at *
 subst eB
 have eA:pk [(7,b0),(5,b1),(8,b2),(1,b3),(10,b4),(1,b5)] &&& 4294963200=pk [(7,0),(5,0),(8,b2),(1,b3),(10,b4),(1,b5)]:=by
  rw [show (4294963200:Nat)=pk [(7,0),(5,0),(8,255),(1,1),(10,1023),(1,1)] by decide +kernel]
  rw [pk_and (by trivial) (by trivial) (by trivial)]
  simp only [zand,Nat.and_zero]
  rw [show b2 &&& 255=b2 from and_full 8 n_b2]
  rw [show b3 &&& 1=b3 from and_full 1 n_b3]
  rw [show b4 &&& 1023=b4 from and_full 10 n_b4]
  rw [show b5 &&& 1=b5 from and_full 1 n_b5]
 have eC:pk [(7,b0),(5,b1),(8,b2),(1,b3),(10,b4),(1,b5)] - (pk [(7,b0),(5,b1),(8,b2),(1,b3),(10,b4),(1,b5)] &&& 4294963200)=pk [(7,b0),(5,b1),(8,0),(1,0),(10,0),(1,0)]:=by rw [eA]; refine Nat.sub_eq_of_eq_add ?_; rw [pk_add (by trivial)]; simp only [zadd,Nat.zero_add,Nat.add_zero]
 have eW:wordN "J" 0 0 0 0 0 0 v=pk [(7,0),(5,0),(8,v2),(1,v3),(10,v4),(1,v5)]:=by rw [← hv2]; rw [← hv3]; rw [← hv4]; rw [← hv5]; rfl
 rw [eW]
 have eX:pk [(7,b0),(5,b1),(8,0),(1,0),(10,0),(1,0)] ||| pk [(7,0),(5,0),(8,v2),(1,v3),(10,v4),(1,v5)]=pk [(7,b0),(5,b1),(8,v2),(1,v3),(10,v4),(1,v5)]:=by
  rw [pk_or (by trivial) (by trivial) (by trivial)]
  simp only [zor,Nat.zero_or,Nat.or_zero]
 have eS:pk [(7,b0),(5,b1),(8,v2),(1,v3),(10,v4),(1,v5)]+pk [(7,0),(5,0),(8,b2),(1,b3),(10,b4),(1,b5)]=pk [(7,b0),(5,b1),(8,b2),(1,b3),(10,b4),(1,b5)]+pk [(7,0),(5,0),(8,v2),(1,v3),(10,v4),(1,v5)]:=by rw [pk_add (by trivial),pk_add (by trivial)]; simp only [zadd,Nat.zero_add,Nat.add_zero,Nat.add_comm]
 refine ⟨pk [(7,b0),(5,b1),(8,v2),(1,v3),(10,v4),(1,v5)],pk_lt32 (l:=[(7,b0),(5,b1),(8,v2),(1,v3),(10,v4),(1,v5)]) (by trivial) rfl,?_,?_,?_,?_,?_,?_⟩
 ·rw [eM,and_not,and32 (by omega),eC]; unfold bo; rw [bitOr_nat,eX]
 ·rw [eM,bitAnd_nat,eA]; omega
 ·exact (fld_skip (k:=5) (by omega)).trans ((fld_skip (k:=0) (by omega)).trans (fld_head (by omega)))
 ·exact (fld_skip (k:=13) (by omega)).trans ((fld_skip (k:=8) (by omega)).trans ((fld_skip (k:=0) (by omega)).trans (fld_head (by omega))))
 ·exact (fld_skip (k:=14) (by omega)).trans ((fld_skip (k:=9) (by omega)).trans ((fld_skip (k:=1) (by omega)).trans ((fld_skip (k:=0) (by omega)).trans (fld_head (by omega)))))
 ·exact (fld_skip (k:=24) (by omega)).trans ((fld_skip (k:=19) (by omega)).trans ((fld_skip (k:=11) (by omega)).trans ((fld_skip (k:=10) (by omega)).trans ((fld_skip (k:=0) (by omega)).trans (fld_head (by omega))))))
theorem chgN_F {B:Nat} (hB:B<4294967296) (v:Int):∃ X:Nat,X<4294967296∧bo (Builtin.bitAnd (Builtin.bitAnd (B:Int) (Builtin.bitNot (maskF "F"))) 4294967295) ((wordN "F" 0 0 0 0 0 0 v:Nat):Int)=(X:Int)∧(X:Int)=(B:Int) - Builtin.bitAnd (B:Int) (maskF "F")+((wordN "F" 0 0 0 0 0 0 v:Nat):Int)∧fld X 20 8=pcN v 0 8:=by
 have l4:=pc_lt v 0 8
 have eM:maskF "F" = ((267386880:Nat):Int):=by kernel_rfl
 have eB:B=pk [(7,B / 2 ^ 0 % 2 ^ 7),(5,B / 2 ^ 7 % 2 ^ 5),(3,B / 2 ^ 12 % 2 ^ 3),(5,B / 2 ^ 15 % 2 ^ 5),(8,B / 2 ^ 20 % 2 ^ 8),(4,B / 2 ^ 28 % 2 ^ 4)]:=pk_cut hB [7,5,3,5,8,4] rfl
 have n_b0:B / 2 ^ 0 % 2 ^ 7<2 ^ 7:=Nat.mod_lt _ (Nat.two_pow_pos _)
 have n_b1:B / 2 ^ 7 % 2 ^ 5<2 ^ 5:=Nat.mod_lt _ (Nat.two_pow_pos _)
 have n_b2:B / 2 ^ 12 % 2 ^ 3<2 ^ 3:=Nat.mod_lt _ (Nat.two_pow_pos _)
 have n_b3:B / 2 ^ 15 % 2 ^ 5<2 ^ 5:=Nat.mod_lt _ (Nat.two_pow_pos _)
 have n_b4:B / 2 ^ 20 % 2 ^ 8<2 ^ 8:=Nat.mod_lt _ (Nat.two_pow_pos _)
 have n_b5:B / 2 ^ 28 % 2 ^ 4<2 ^ 4:=Nat.mod_lt _ (Nat.two_pow_pos _)
 generalize B / 2 ^ 0 % 2 ^ 7=b0 at eB n_b0
 generalize B / 2 ^ 7 % 2 ^ 5=b1 at eB n_b1
 generalize B / 2 ^ 12 % 2 ^ 3=b2 at eB n_b2
 generalize B / 2 ^ 15 % 2 ^ 5=b3 at eB n_b3
 generalize B / 2 ^ 20 % 2 ^ 8=b4 at eB n_b4
 generalize B / 2 ^ 28 % 2 ^ 4=b5 at eB n_b5
 generalize hv4:pcN v 0 8=v4 at *
 subst eB
 have eA:pk [(7,b0),(5,b1),(3,b2),(5,b3),(8,b4),(4,b5)] &&& 267386880=pk [(7,0),(5,0),(3,0),(5,0),(8,b4),(4,0)]:=by
  rw [show (267386880:Nat)=pk [(7,0),(5,0),(3,0),(5,0),(8,255),(4,0)] by decide +kernel]
  rw [pk_and (by trivial) (by trivial) (by trivial)]
  simp only [zand,Nat.and_zero]
  rw [show b4 &&& 255=b4 from and_full 8 n_b4]
 have eC:pk [(7,b0),(5,b1),(3,b2),(5,b3),(8,b4),(4,b5)] - (pk [(7,b0),(5,b1),(3,b2),(5,b3),(8,b4),(4,b5)] &&& 267386880)=pk [(7,b0),(5,b1),(3,b2),(5,b3),(8,0),(4,b5)]:=by rw [eA]; refine Nat.sub_eq_of_eq_add ?_; rw [pk_add (by trivial)]; simp only [zadd,Nat.zero_add,Nat.add_zero]
 have eW:wordN "F" 0 0 0 0 0 0 v=pk [(7,0),(5,0),(3,0),(5,0),(8,v4),(4,0)]:=by rw [← hv4]; rfl
 rw [eW]
 have eX:pk [(7,b0),(5,b1),(3,b2),(5,b3),(8,0),(4,b5)] ||| pk [(7,0),(5,0),(3,0),(5,0),(8,v4),(4,0)]=pk [(7,b0),(5,b1),(3,b2),(5,b3),(8,v4),(4,b5)]:=by
  rw [pk_or (by trivial) (by trivial) (by trivial)]
  simp only [zor,Nat.zero_or,Nat.or_zero]
 have eS:pk [(7,b0),(5,b1),(3,b2),(5,b3),(8,v4),(4,b5)]+pk [(7,0),(5,0),(3,0),(5,0),(8,b4),(4,0)]=pk [(7,b0),(5,b1),(3,b2),(5,b3),(8,b4),(4,b5)]+pk [(7,0),(5,0),(3,0),(5,0),(8,v4),(4,0)]:=by rw [pk_add (by trivial),pk_add (by trivial)]; simp only [zadd,Nat.zero_add,Nat.add_zero,Nat.add_comm]
 refine ⟨pk [(7,b0),(5,b1),(3,b2),(5,b3),(8,v4),(4,b5)],pk_lt32 (l:=[(7,b0),(5,b1),(3,b2),(5,b3),(8,v4),(4,b5)]) (by trivial) rfl,?_,?_,?_⟩
 ·rw [eM,and_not,and32 (by omega),eC]; unfold bo; rw [bitOr_nat,eX]
 ·rw [eM,bitAnd_nat,eA]; omega
 ·exact (fld_skip (k:=13) (by omega)).trans ((fld_skip (k:=8) (by omega)).trans ((fld_skip (k:=5) (by omega)).trans ((fld_skip (k:=0) (by omega)).trans (fld_head (by omega)))))
end
end Mine
end
section
open PySem.SeqAt MineH
namespace Mine
section
variable {prog:Program} {w:World} {h:Heap}
def rowsX:List (Str×Str×Nat×Nat×Nat):=match v_ROWS with
 | .lst l=>l.map fun r=>match r with
  | .tup [.str n,.str f,.dS _ [.num x,.num y,.num z]]=>(n,f,x.toNat,y.toNat,z.toNat)
  | _=>("","",0,0,0)
 | _=>[]
structure RowOk (n f:Str) (x y z:Nat):Prop where
 form:f∈formsL
 mem:memS n instrK=true
 look:lookS instrK instrV n=some (.tup [.str f,.num ((baseN f x y z:Nat):Int)])
 row:(mkN f,baseN f x y z,n,f)∈rowsF
 len:n.length≤1000
 xyz:xyzOk f x y z
def xyzB (f:Str) (x y z:Nat):Bool:=decide (x<128)&&(match memS f ["U","J","E"] with | true=>decide (y=0) | false=>decide (y<8))&&(match f==("E" : Str) with | true=>decide (z<33554432) | false=>match memS f ["R","H"] with | true=>decide (z<128) | false=>decide (z=0))
def rowB (r:Str×Str×Nat×Nat×Nat):Bool:=match r with
 | (n,f,x,y,z)=>memS f formsL&&memS n instrK&&(match lookS instrK instrV n with | some v=>eqAV v (.tup [.str f,.num ((baseN f x y z:Nat):Int)]) | none=>false)
  && decide ((mkN f,baseN f x y z,n,f)∈rowsF)&&Nat.ble n.length 1000&&xyzB f x y z
theorem rowsB:rowsX.all rowB=true:=by kernel_rfl
theorem memS_mem {x:Str}:∀ {l:List Str},memS x l=true→x∈l
 | [],h=>(nomatch h)
 | k :: l,h=>by
  unfold memS at h
  split at h
  ·rename_i q; rw [eq_of_beq q]; simp
  ·simp [memS_mem h]
theorem xyz_of {x y z:Nat}:∀ f∈formsL,xyzB f x y z=true→xyzOk f x y z:=by
 refine by9 ?_ ?_ ?_ ?_ ?_ ?_ ?_ ?_ ?_<;>intro h<;>(simp only [xyzB,Bool.and_eq_true,decide_eq_true_eq] at h)
 ·exact ⟨h.1.1,of_decide_eq_true h.1.2,of_decide_eq_true h.2⟩
 ·exact ⟨h.1.1,of_decide_eq_true h.1.2,of_decide_eq_true h.2⟩
 ·exact ⟨h.1.1,of_decide_eq_true h.1.2,of_decide_eq_true h.2⟩
 ·exact ⟨h.1.1,of_decide_eq_true h.1.2,of_decide_eq_true h.2⟩
 ·exact ⟨h.1.1,of_decide_eq_true h.1.2,of_decide_eq_true h.2⟩
 ·exact ⟨h.1.1,of_decide_eq_true h.1.2,of_decide_eq_true h.2⟩
 ·exact ⟨h.1.1,of_decide_eq_true h.1.2,of_decide_eq_true h.2⟩
 ·exact ⟨h.1.1,of_decide_eq_true h.1.2,of_decide_eq_true h.2⟩
 ·exact ⟨h.1.1,of_decide_eq_true h.1.2,of_decide_eq_true h.2⟩
theorem rows_ok {n f:Str} {x y z:Nat} (hr:(n,f,x,y,z)∈rowsX):RowOk n f x y z:=by
 have h:=List.all_eq_true.mp rowsB _ hr
 simp only [rowB,Bool.and_eq_true] at h
 obtain ⟨⟨⟨⟨⟨h1,h2⟩,h3⟩,h4⟩,h5⟩,h6⟩:=h
 have hf:=memS_mem h1
 refine ⟨hf,h2,?_,of_decide_eq_true h4,Nat.le_of_ble_eq_true h5,xyz_of f hf h6⟩
 split at h3
 ·rename_i v q
  rw [q,eqAV_eq h3]
 ·cases h3
theorem room_I {v:Int} (h1 : -2048≤v) (h2:v<2048) (h3:v % 1=0):hrF "I" v=true:=by
 show ((decide ((-2048:Int)≤v)&&decide (v<(2048:Int)))&&(v.fmod 1==0))=true
 rw [decide_eq_true h1,decide_eq_true h2,Int.fmod_eq_emod_of_nonneg _ (by decide),h3]; rfl
theorem roomN_I {v:Int} (h:hrF "I" v=true) : -2048≤v∧v<2048∧v % 1=0:=by
 have h:((decide ((-2048:Int)≤v)&&decide (v<(2048:Int)))&&(v.fmod 1==0))=true:=h
 rw [Int.fmod_eq_emod_of_nonneg _ (by decide)] at h
 simp only [Bool.and_eq_true,decide_eq_true_eq,beq_iff_eq] at h
 exact ⟨h.1.1,h.1.2,h.2⟩
theorem room_H {v:Int} (h1:0≤v) (h2:v<32) (h3:v % 1=0):hrF "H" v=true:=by
 show ((decide ((0:Int)≤v)&&decide (v<(32:Int)))&&(v.fmod 1==0))=true
 rw [decide_eq_true h1,decide_eq_true h2,Int.fmod_eq_emod_of_nonneg _ (by decide),h3]; rfl
theorem roomN_H {v:Int} (h:hrF "H" v=true):0≤v∧v<32∧v % 1=0:=by
 have h:((decide ((0:Int)≤v)&&decide (v<(32:Int)))&&(v.fmod 1==0))=true:=h
 rw [Int.fmod_eq_emod_of_nonneg _ (by decide)] at h
 simp only [Bool.and_eq_true,decide_eq_true_eq,beq_iff_eq] at h
 exact ⟨h.1.1,h.1.2,h.2⟩
theorem room_S {v:Int} (h1 : -2048≤v) (h2:v<2048) (h3:v % 1=0):hrF "S" v=true:=by
 show ((decide ((-2048:Int)≤v)&&decide (v<(2048:Int)))&&(v.fmod 1==0))=true
 rw [decide_eq_true h1,decide_eq_true h2,Int.fmod_eq_emod_of_nonneg _ (by decide),h3]; rfl
theorem roomN_S {v:Int} (h:hrF "S" v=true) : -2048≤v∧v<2048∧v % 1=0:=by
 have h:((decide ((-2048:Int)≤v)&&decide (v<(2048:Int)))&&(v.fmod 1==0))=true:=h
 rw [Int.fmod_eq_emod_of_nonneg _ (by decide)] at h
 simp only [Bool.and_eq_true,decide_eq_true_eq,beq_iff_eq] at h
 exact ⟨h.1.1,h.1.2,h.2⟩
theorem room_B {v:Int} (h1 : -4096≤v) (h2:v<4096) (h3:v % 2=0):hrF "B" v=true:=by
 show ((decide ((-4096:Int)≤v)&&decide (v<(4096:Int)))&&(v.fmod 2==0))=true
 rw [decide_eq_true h1,decide_eq_true h2,Int.fmod_eq_emod_of_nonneg _ (by decide),h3]; rfl
theorem roomN_B {v:Int} (h:hrF "B" v=true) : -4096≤v∧v<4096∧v % 2=0:=by
 have h:((decide ((-4096:Int)≤v)&&decide (v<(4096:Int)))&&(v.fmod 2==0))=true:=h
 rw [Int.fmod_eq_emod_of_nonneg _ (by decide)] at h
 simp only [Bool.and_eq_true,decide_eq_true_eq,beq_iff_eq] at h
 exact ⟨h.1.1,h.1.2,h.2⟩
theorem room_U {v:Int} (h1:0≤v) (h2:v<1048576) (h3:v % 1=0):hrF "U" v=true:=by
 show ((decide ((0:Int)≤v)&&decide (v<(1048576:Int)))&&(v.fmod 1==0))=true
 rw [decide_eq_true h1,decide_eq_true h2,Int.fmod_eq_emod_of_nonneg _ (by decide),h3]; rfl
theorem roomN_U {v:Int} (h:hrF "U" v=true):0≤v∧v<1048576∧v % 1=0:=by
 have h:((decide ((0:Int)≤v)&&decide (v<(1048576:Int)))&&(v.fmod 1==0))=true:=h
 rw [Int.fmod_eq_emod_of_nonneg _ (by decide)] at h
 simp only [Bool.and_eq_true,decide_eq_true_eq,beq_iff_eq] at h
 exact ⟨h.1.1,h.1.2,h.2⟩
theorem room_J {v:Int} (h1 : -1048576≤v) (h2:v<1048576) (h3:v % 2=0):hrF "J" v=true:=by
 show ((decide ((-1048576:Int)≤v)&&decide (v<(1048576:Int)))&&(v.fmod 2==0))=true
 rw [decide_eq_true h1,decide_eq_true h2,Int.fmod_eq_emod_of_nonneg _ (by decide),h3]; rfl
theorem roomN_J {v:Int} (h:hrF "J" v=true) : -1048576≤v∧v<1048576∧v % 2=0:=by
 have h:((decide ((-1048576:Int)≤v)&&decide (v<(1048576:Int)))&&(v.fmod 2==0))=true:=h
 rw [Int.fmod_eq_emod_of_nonneg _ (by decide)] at h
 simp only [Bool.and_eq_true,decide_eq_true_eq,beq_iff_eq] at h
 exact ⟨h.1.1,h.1.2,h.2⟩
theorem room_F {v:Int} (h1:0≤v) (h2:v<256) (h3:v % 1=0):hrF "F" v=true:=by
 show ((decide ((0:Int)≤v)&&decide (v<(256:Int)))&&(v.fmod 1==0))=true
 rw [decide_eq_true h1,decide_eq_true h2,Int.fmod_eq_emod_of_nonneg _ (by decide),h3]; rfl
theorem roomN_F {v:Int} (h:hrF "F" v=true):0≤v∧v<256∧v % 1=0:=by
 have h:((decide ((0:Int)≤v)&&decide (v<(256:Int)))&&(v.fmod 1==0))=true:=h
 rw [Int.fmod_eq_emod_of_nonneg _ (by decide)] at h
 simp only [Bool.and_eq_true,decide_eq_true_eq,beq_iff_eq] at h
 exact ⟨h.1.1,h.1.2,h.2⟩
theorem pl_R:plF "R" = ([("rd",7),("rs1",15),("rs2",20)]:List (Str×Int)):=by kernel_rfl
theorem ks_R:keysF "R" = (["rd","rs1","rs2"]:List Str):=by kernel_rfl
theorem encOk_R {n:Str} {x y z:Nat} (Rw:RowOk n "R" x y z) {g:Str→Int} {d s t:Nat} (hd:g "rd" = (d:Int)) (hs:g "rs1" = (s:Int)) (ht:g "rs2" = (t:Int)) (ld:d<32) (ls:s<32) (lt:t<32):HX (encX [.str n,fieldsA "R" g]) (fun av=>∃ b,intOf av=some (((wordN "R" x y z d s t (g "imm"):Nat):Int),b)) False:=by
 refine enc_of Rw.mem Rw.look ?_
 rw [encR_R]
 refine placeT_ok (fun p hp=>?_) ?_
 ·have hp:p∈plF "R" := hp
  rw [pl_R] at hp
  simp only [List.mem_cons,List.not_mem_nil,or_false] at hp
  rcases hp with q | q | q<;>rw [q]
  ·show 0≤g "rd" ∧ g "rd" < 32
   rw [hd]; omega
  ·show 0≤g "rs1" ∧ g "rs1" < 32
   rw [hs]; omega
  ·show 0≤g "rs2" ∧ g "rs2" < 32
   rw [ht]; omega
 refine hx_ret ⟨true,?_⟩
 show some (bo (bo (bo (((baseN "R" x y z:Nat):Int)) (g "rd" * 2 ^ (7:Int).toNat)) (g "rs1" * 2 ^ (15:Int).toNat)) (g "rs2" * 2 ^ (20:Int).toNat),true)=_
 rw [hd,hs,ht,encN_R (v:=g "imm") Rw.xyz ld ls lt]
theorem backs_R {x y z:Nat} {g:Str→Int} {d s t:Nat} (hx:xyzOk "R" x y z) (hd:g "rd" = (d:Int)) (hs:g "rs1" = (s:Int)) (ht:g "rs2" = (t:Int)) (ld:d<32) (ls:s<32) (lt:t<32):∀ k∈keysF "R",fieldV "R" ((wordN "R" x y z d s t (g "imm"):Nat):Int) k=g k:=by
 intro k hk
 rw [ks_R] at hk
 simp only [List.mem_cons,List.not_mem_nil,or_false] at hk
 rcases hk with q | q | q<;>rw [q]
 ·rw [hd]; exact back_R_rd hx ld ls lt
 ·rw [hs]; exact back_R_rs1 hx ld ls lt
 ·rw [ht]; exact back_R_rs2 hx ld ls lt
theorem plen_R:∀ p∈plF "R",p.1.length≤1000:=by
 rw [pl_R]; decide +kernel
theorem encW_R_rd_exc {n:Str} {x y z:Nat} (Rw:RowOk n "R" x y z) (g:Str→Int) (hw:¬ (0≤g "rd" ∧ g "rd" < 32)):HX (encX [.str n,wrongA "R" g "rd"]) (fun _=>False) True:=by
 refine enc_of Rw.mem Rw.look ?_
 rw [encW_R_rd]
 exact placeT_exc plen_R ⟨("rd",7),by rw [pl_R]; simp,hw⟩
theorem encD_R_rd_exc {n:Str} {x y z:Nat} (Rw:RowOk n "R" x y z) (g:Str→Int):HX (encX [.str n,dropA "R" g "rd"]) (fun _=>False) True:=by
 refine enc_of Rw.mem Rw.look ?_
 rw [encD_R_rd]
 exact placeD_exc plen_R ⟨("rd",7),by rw [pl_R]; simp,rfl⟩
theorem encW_R_rs1_exc {n:Str} {x y z:Nat} (Rw:RowOk n "R" x y z) (g:Str→Int) (hw:¬ (0≤g "rs1" ∧ g "rs1" < 32)):HX (encX [.str n,wrongA "R" g "rs1"]) (fun _=>False) True:=by
 refine enc_of Rw.mem Rw.look ?_
 rw [encW_R_rs1]
 exact placeT_exc plen_R ⟨("rs1",15),by rw [pl_R]; simp,hw⟩
theorem encD_R_rs1_exc {n:Str} {x y z:Nat} (Rw:RowOk n "R" x y z) (g:Str→Int):HX (encX [.str n,dropA "R" g "rs1"]) (fun _=>False) True:=by
 refine enc_of Rw.mem Rw.look ?_
 rw [encD_R_rs1]
 exact placeD_exc plen_R ⟨("rs1",15),by rw [pl_R]; simp,rfl⟩
theorem encW_R_rs2_exc {n:Str} {x y z:Nat} (Rw:RowOk n "R" x y z) (g:Str→Int) (hw:¬ (0≤g "rs2" ∧ g "rs2" < 32)):HX (encX [.str n,wrongA "R" g "rs2"]) (fun _=>False) True:=by
 refine enc_of Rw.mem Rw.look ?_
 rw [encW_R_rs2]
 exact placeT_exc plen_R ⟨("rs2",20),by rw [pl_R]; simp,hw⟩
theorem encD_R_rs2_exc {n:Str} {x y z:Nat} (Rw:RowOk n "R" x y z) (g:Str→Int):HX (encX [.str n,dropA "R" g "rs2"]) (fun _=>False) True:=by
 refine enc_of Rw.mem Rw.look ?_
 rw [encD_R_rs2]
 exact placeD_exc plen_R ⟨("rs2",20),by rw [pl_R]; simp,rfl⟩
theorem pl_I:plF "I" = ([("rd",7),("rs1",15)]:List (Str×Int)):=by kernel_rfl
theorem ks_I:keysF "I" = (["rd","rs1","imm"]:List Str):=by kernel_rfl
theorem fldW_I {x y z d s t:Nat} {v:Int} (hx:xyzOk "I" x y z) (hd:d<32) (hs:s<32) (ht:t<32):fld (wordN "I" x y z d s t v) 20 12=pcN v 0 12:=by
 have hx:x<128∧y<8∧z=0:=hx
 have l4:=pc_lt v 0 12
 rw [show wordN "I" x y z d s t v=pk [(7,x),(5,d),(3,y),(5,s),(12,pcN v 0 12)] from rfl]
 exact (fld_skip (k:=13) (by omega)).trans ((fld_skip (k:=8) (by omega)).trans ((fld_skip (k:=5) (by omega)).trans ((fld_skip (k:=0) (by omega)).trans (fld_head (by omega)))))
theorem immW_I {x y z d s t:Nat} {v:Int} (hx:xyzOk "I" x y z) (hd:d<32) (hs:s<32) (ht:t<32) (h1 : -2048≤v) (h2:v<2048) (h3:v % 1=0):immV "I" ((wordN "I" x y z d s t v:Nat):Int)=v:=by
 have q:=fldW_I (v:=v) hx hd hs ht
 exact immB_I (hitN_I (v:=v) hx hd hs ht).2 h1 h2 h3 q
theorem encOk_I {n:Str} {x y z:Nat} (Rw:RowOk n "I" x y z) {g:Str→Int} {d s t:Nat} (hd:g "rd" = (d:Int)) (hs:g "rs1" = (s:Int)) (ht:g "rs2" = (t:Int)) (ld:d<32) (ls:s<32) (lt:t<32) (h1 : -2048≤g "imm") (h2:g "imm" < 2048) (h3:g "imm" % 1=0):HX (encX [.str n,fieldsA "I" g]) (fun av=>∃ b,intOf av=some (((wordN "I" x y z d s t (g "imm"):Nat):Int),b)) False:=by
 refine enc_of Rw.mem Rw.look ?_
 rw [encR_I]
 refine placeT_ok (fun p hp=>?_) ?_
 ·have hp:p∈plF "I" := hp
  rw [pl_I] at hp
  simp only [List.mem_cons,List.not_mem_nil,or_false] at hp
  rcases hp with q | q<;>rw [q]
  ·show 0≤g "rd" ∧ g "rd" < 32
   rw [hd]; omega
  ·show 0≤g "rs1" ∧ g "rs1" < 32
   rw [hs]; omega
 have Fi:=fits_ok (f := "I") (by simp [immForms]) Rw.look (g "imm")
 have hr:hrF "I" (g "imm")=true:=room_I h1 h2 h3
 refine hx_need (p:=okB (fitR n (.sym (g "imm")))) Fi.1 (hx_ite (fun e=>?_) fun _=>hx_bind (hx_mono (bitsN_I h1 h2) fun av e=>?_))
 ·have e:(!valB (fitsX [.str n,.sym (g "imm")]))=true:=e
  rw [Fi.2,hr] at e; cases e
 ·rw [e]
  refine hx_ret ⟨true,?_⟩
  show some (bo (bo (bo (((baseN "I" x y z:Nat):Int)) (g "rd" * 2 ^ (7:Int).toNat)) (g "rs1" * 2 ^ (15:Int).toNat)) ((wordN "I" 0 0 0 0 0 0 (g "imm"):Nat):Int),true)=_
  rw [hd,hs,encN_I Rw.xyz ld ls lt]
theorem backs_I {x y z:Nat} {g:Str→Int} {d s t:Nat} (hx:xyzOk "I" x y z) (hd:g "rd" = (d:Int)) (hs:g "rs1" = (s:Int)) (ht:g "rs2" = (t:Int)) (ld:d<32) (ls:s<32) (lt:t<32) (h1 : -2048≤g "imm") (h2:g "imm" < 2048) (h3:g "imm" % 1=0):∀ k∈keysF "I",fieldV "I" ((wordN "I" x y z d s t (g "imm"):Nat):Int) k=g k:=by
 intro k hk
 rw [ks_I] at hk
 simp only [List.mem_cons,List.not_mem_nil,or_false] at hk
 rcases hk with q | q | q<;>rw [q]
 ·rw [hd]; exact back_I_rd hx ld ls lt
 ·rw [hs]; exact back_I_rs1 hx ld ls lt
 ·exact immW_I hx ld ls lt h1 h2 h3
theorem plen_I:∀ p∈plF "I",p.1.length≤1000:=by
 rw [pl_I]; decide +kernel
theorem encW_I_rd_exc {n:Str} {x y z:Nat} (Rw:RowOk n "I" x y z) (g:Str→Int) (hw:¬ (0≤g "rd" ∧ g "rd" < 32)):HX (encX [.str n,wrongA "I" g "rd"]) (fun _=>False) True:=by
 refine enc_of Rw.mem Rw.look ?_
 rw [encW_I_rd]
 exact placeT_exc plen_I ⟨("rd",7),by rw [pl_I]; simp,hw⟩
theorem encD_I_rd_exc {n:Str} {x y z:Nat} (Rw:RowOk n "I" x y z) (g:Str→Int):HX (encX [.str n,dropA "I" g "rd"]) (fun _=>False) True:=by
 refine enc_of Rw.mem Rw.look ?_
 rw [encD_I_rd]
 exact placeD_exc plen_I ⟨("rd",7),by rw [pl_I]; simp,rfl⟩
theorem encW_I_rs1_exc {n:Str} {x y z:Nat} (Rw:RowOk n "I" x y z) (g:Str→Int) (hw:¬ (0≤g "rs1" ∧ g "rs1" < 32)):HX (encX [.str n,wrongA "I" g "rs1"]) (fun _=>False) True:=by
 refine enc_of Rw.mem Rw.look ?_
 rw [encW_I_rs1]
 exact placeT_exc plen_I ⟨("rs1",15),by rw [pl_I]; simp,hw⟩
theorem encD_I_rs1_exc {n:Str} {x y z:Nat} (Rw:RowOk n "I" x y z) (g:Str→Int):HX (encX [.str n,dropA "I" g "rs1"]) (fun _=>False) True:=by
 refine enc_of Rw.mem Rw.look ?_
 rw [encD_I_rs1]
 exact placeD_exc plen_I ⟨("rs1",15),by rw [pl_I]; simp,rfl⟩
theorem encD_I_imm_exc {n:Str} {x y z:Nat} (Rw:RowOk n "I" x y z) (g:Str→Int) (hg:∀ p∈plF "I",0≤g p.1∧g p.1<32):HX (encX [.str n,dropA "I" g "imm"]) (fun _=>False) True:=by
 refine enc_of Rw.mem Rw.look ?_
 rw [encD_I_imm]
 exact placeT_ok hg (excI_hx Rw.len trivial)
theorem encF_I_exc {n:Str} {x y z:Nat} (Rw:RowOk n "I" x y z) (g:Str→Int) (hg:∀ p∈plF "I",0≤g p.1∧g p.1<32) (hr:hrF "I" (g "imm")=false):HX (encX [.str n,fieldsA "I" g]) (fun _=>False) True:=by
 refine enc_of Rw.mem Rw.look ?_
 rw [encR_I]
 have Fi:=fits_ok (f := "I") (by simp [immForms]) Rw.look (g "imm")
 refine placeT_ok hg (hx_need (p:=okB (fitR n (.sym (g "imm")))) Fi.1 (hx_ite (fun _=>excI_hx Rw.len trivial) fun e=>?_))
 have e:(!valB (fitsX [.str n,.sym (g "imm")]))=false:=e
 rw [Fi.2,hr] at e; cases e
theorem pl_H:plF "H" = ([("rd",7),("rs1",15)]:List (Str×Int)):=by kernel_rfl
theorem ks_H:keysF "H" = (["rd","rs1","imm"]:List Str):=by kernel_rfl
theorem fldW_H {x y z d s t:Nat} {v:Int} (hx:xyzOk "H" x y z) (hd:d<32) (hs:s<32) (ht:t<32):fld (wordN "H" x y z d s t v) 20 5=pcN v 0 5:=by
 have hx:x<128∧y<8∧z<128:=hx
 have l4:=pc_lt v 0 5
 rw [show wordN "H" x y z d s t v=pk [(7,x),(5,d),(3,y),(5,s),(5,pcN v 0 5),(7,z)] from rfl]
 exact (fld_skip (k:=13) (by omega)).trans ((fld_skip (k:=8) (by omega)).trans ((fld_skip (k:=5) (by omega)).trans ((fld_skip (k:=0) (by omega)).trans (fld_head (by omega)))))
theorem immW_H {x y z d s t:Nat} {v:Int} (hx:xyzOk "H" x y z) (hd:d<32) (hs:s<32) (ht:t<32) (h1:0≤v) (h2:v<32) (h3:v % 1=0):immV "H" ((wordN "H" x y z d s t v:Nat):Int)=v:=by
 have q:=fldW_H (v:=v) hx hd hs ht
 exact immB_H (hitN_H (v:=v) hx hd hs ht).2 h1 h2 h3 q
theorem encOk_H {n:Str} {x y z:Nat} (Rw:RowOk n "H" x y z) {g:Str→Int} {d s t:Nat} (hd:g "rd" = (d:Int)) (hs:g "rs1" = (s:Int)) (ht:g "rs2" = (t:Int)) (ld:d<32) (ls:s<32) (lt:t<32) (h1:0≤g "imm") (h2:g "imm" < 32) (h3:g "imm" % 1=0):HX (encX [.str n,fieldsA "H" g]) (fun av=>∃ b,intOf av=some (((wordN "H" x y z d s t (g "imm"):Nat):Int),b)) False:=by
 refine enc_of Rw.mem Rw.look ?_
 rw [encR_H]
 refine placeT_ok (fun p hp=>?_) ?_
 ·have hp:p∈plF "H" := hp
  rw [pl_H] at hp
  simp only [List.mem_cons,List.not_mem_nil,or_false] at hp
  rcases hp with q | q<;>rw [q]
  ·show 0≤g "rd" ∧ g "rd" < 32
   rw [hd]; omega
  ·show 0≤g "rs1" ∧ g "rs1" < 32
   rw [hs]; omega
 have Fi:=fits_ok (f := "H") (by simp [immForms]) Rw.look (g "imm")
 have hr:hrF "H" (g "imm")=true:=room_H h1 h2 h3
 refine hx_need (p:=okB (fitR n (.sym (g "imm")))) Fi.1 (hx_ite (fun e=>?_) fun _=>hx_bind (hx_mono (bitsN_H h1 h2) fun av e=>?_))
 ·have e:(!valB (fitsX [.str n,.sym (g "imm")]))=true:=e
  rw [Fi.2,hr] at e; cases e
 ·rw [e]
  refine hx_ret ⟨true,?_⟩
  show some (bo (bo (bo (((baseN "H" x y z:Nat):Int)) (g "rd" * 2 ^ (7:Int).toNat)) (g "rs1" * 2 ^ (15:Int).toNat)) ((wordN "H" 0 0 0 0 0 0 (g "imm"):Nat):Int),true)=_
  rw [hd,hs,encN_H Rw.xyz ld ls lt]
theorem backs_H {x y z:Nat} {g:Str→Int} {d s t:Nat} (hx:xyzOk "H" x y z) (hd:g "rd" = (d:Int)) (hs:g "rs1" = (s:Int)) (ht:g "rs2" = (t:Int)) (ld:d<32) (ls:s<32) (lt:t<32) (h1:0≤g "imm") (h2:g "imm" < 32) (h3:g "imm" % 1=0):∀ k∈keysF "H",fieldV "H" ((wordN "H" x y z d s t (g "imm"):Nat):Int) k=g k:=by
 intro k hk
 rw [ks_H] at hk
 simp only [List.mem_cons,List.not_mem_nil,or_false] at hk
 rcases hk with q | q | q<;>rw [q]
 ·rw [hd]; exact back_H_rd hx ld ls lt
 ·rw [hs]; exact back_H_rs1 hx ld ls lt
 ·exact immW_H hx ld ls lt h1 h2 h3
theorem plen_H:∀ p∈plF "H",p.1.length≤1000:=by
 rw [pl_H]; decide +kernel
theorem encW_H_rd_exc {n:Str} {x y z:Nat} (Rw:RowOk n "H" x y z) (g:Str→Int) (hw:¬ (0≤g "rd" ∧ g "rd" < 32)):HX (encX [.str n,wrongA "H" g "rd"]) (fun _=>False) True:=by
 refine enc_of Rw.mem Rw.look ?_
 rw [encW_H_rd]
 exact placeT_exc plen_H ⟨("rd",7),by rw [pl_H]; simp,hw⟩
theorem encD_H_rd_exc {n:Str} {x y z:Nat} (Rw:RowOk n "H" x y z) (g:Str→Int):HX (encX [.str n,dropA "H" g "rd"]) (fun _=>False) True:=by
 refine enc_of Rw.mem Rw.look ?_
 rw [encD_H_rd]
 exact placeD_exc plen_H ⟨("rd",7),by rw [pl_H]; simp,rfl⟩
theorem encW_H_rs1_exc {n:Str} {x y z:Nat} (Rw:RowOk n "H" x y z) (g:Str→Int) (hw:¬ (0≤g "rs1" ∧ g "rs1" < 32)):HX (encX [.str n,wrongA "H" g "rs1"]) (fun _=>False) True:=by
 refine enc_of Rw.mem Rw.look ?_
 rw [encW_H_rs1]
 exact placeT_exc plen_H ⟨("rs1",15),by rw [pl_H]; simp,hw⟩
theorem encD_H_rs1_exc {n:Str} {x y z:Nat} (Rw:RowOk n "H" x y z) (g:Str→Int):HX (encX [.str n,dropA "H" g "rs1"]) (fun _=>False) True:=by
 refine enc_of Rw.mem Rw.look ?_
 rw [encD_H_rs1]
 exact placeD_exc plen_H ⟨("rs1",15),by rw [pl_H]; simp,rfl⟩
theorem encD_H_imm_exc {n:Str} {x y z:Nat} (Rw:RowOk n "H" x y z) (g:Str→Int) (hg:∀ p∈plF "H",0≤g p.1∧g p.1<32):HX (encX [.str n,dropA "H" g "imm"]) (fun _=>False) True:=by
 refine enc_of Rw.mem Rw.look ?_
 rw [encD_H_imm]
 exact placeT_ok hg (excI_hx Rw.len trivial)
theorem encF_H_exc {n:Str} {x y z:Nat} (Rw:RowOk n "H" x y z) (g:Str→Int) (hg:∀ p∈plF "H",0≤g p.1∧g p.1<32) (hr:hrF "H" (g "imm")=false):HX (encX [.str n,fieldsA "H" g]) (fun _=>False) True:=by
 refine enc_of Rw.mem Rw.look ?_
 rw [encR_H]
 have Fi:=fits_ok (f := "H") (by simp [immForms]) Rw.look (g "imm")
 refine placeT_ok hg (hx_need (p:=okB (fitR n (.sym (g "imm")))) Fi.1 (hx_ite (fun _=>excI_hx Rw.len trivial) fun e=>?_))
 have e:(!valB (fitsX [.str n,.sym (g "imm")]))=false:=e
 rw [Fi.2,hr] at e; cases e
theorem pl_S:plF "S" = ([("rs1",15),("rs2",20)]:List (Str×Int)):=by kernel_rfl
theorem ks_S:keysF "S" = (["rs1","rs2","imm"]:List Str):=by kernel_rfl
theorem fldW_S {x y z d s t:Nat} {v:Int} (hx:xyzOk "S" x y z) (hd:d<32) (hs:s<32) (ht:t<32):fld (wordN "S" x y z d s t v) 7 5=pcN v 0 5∧fld (wordN "S" x y z d s t v) 25 7=pcN v 5 7:=by
 have hx:x<128∧y<8∧z=0:=hx
 have l1:=pc_lt v 0 5
 have l5:=pc_lt v 5 7
 rw [show wordN "S" x y z d s t v=pk [(7,x),(5,pcN v 0 5),(3,y),(5,s),(5,t),(7,pcN v 5 7)] from rfl]
 exact ⟨(fld_skip (k:=0) (by omega)).trans (fld_head (by omega)),(fld_skip (k:=18) (by omega)).trans ((fld_skip (k:=13) (by omega)).trans ((fld_skip (k:=10) (by omega)).trans ((fld_skip (k:=5) (by omega)).trans ((fld_skip (k:=0) (by omega)).trans (fld_head (by omega))))))⟩
theorem immW_S {x y z d s t:Nat} {v:Int} (hx:xyzOk "S" x y z) (hd:d<32) (hs:s<32) (ht:t<32) (h1 : -2048≤v) (h2:v<2048) (h3:v % 1=0):immV "S" ((wordN "S" x y z d s t v:Nat):Int)=v:=by
 have q:=fldW_S (v:=v) hx hd hs ht
 exact immB_S (hitN_S (v:=v) hx hd hs ht).2 h1 h2 h3 q.1 q.2
theorem encOk_S {n:Str} {x y z:Nat} (Rw:RowOk n "S" x y z) {g:Str→Int} {d s t:Nat} (hd:g "rd" = (d:Int)) (hs:g "rs1" = (s:Int)) (ht:g "rs2" = (t:Int)) (ld:d<32) (ls:s<32) (lt:t<32) (h1 : -2048≤g "imm") (h2:g "imm" < 2048) (h3:g "imm" % 1=0):HX (encX [.str n,fieldsA "S" g]) (fun av=>∃ b,intOf av=some (((wordN "S" x y z d s t (g "imm"):Nat):Int),b)) False:=by
 refine enc_of Rw.mem Rw.look ?_
 rw [encR_S]
 refine placeT_ok (fun p hp=>?_) ?_
 ·have hp:p∈plF "S" := hp
  rw [pl_S] at hp
  simp only [List.mem_cons,List.not_mem_nil,or_false] at hp
  rcases hp with q | q<;>rw [q]
  ·show 0≤g "rs1" ∧ g "rs1" < 32
   rw [hs]; omega
  ·show 0≤g "rs2" ∧ g "rs2" < 32
   rw [ht]; omega
 have Fi:=fits_ok (f := "S") (by simp [immForms]) Rw.look (g "imm")
 have hr:hrF "S" (g "imm")=true:=room_S h1 h2 h3
 refine hx_need (p:=okB (fitR n (.sym (g "imm")))) Fi.1 (hx_ite (fun e=>?_) fun _=>hx_bind (hx_mono (bitsN_S h1 h2) fun av e=>?_))
 ·have e:(!valB (fitsX [.str n,.sym (g "imm")]))=true:=e
  rw [Fi.2,hr] at e; cases e
 ·rw [e]
  refine hx_ret ⟨true,?_⟩
  show some (bo (bo (bo (((baseN "S" x y z:Nat):Int)) (g "rs1" * 2 ^ (15:Int).toNat)) (g "rs2" * 2 ^ (20:Int).toNat)) ((wordN "S" 0 0 0 0 0 0 (g "imm"):Nat):Int),true)=_
  rw [hs,ht,encN_S Rw.xyz ld ls lt]
theorem backs_S {x y z:Nat} {g:Str→Int} {d s t:Nat} (hx:xyzOk "S" x y z) (hd:g "rd" = (d:Int)) (hs:g "rs1" = (s:Int)) (ht:g "rs2" = (t:Int)) (ld:d<32) (ls:s<32) (lt:t<32) (h1 : -2048≤g "imm") (h2:g "imm" < 2048) (h3:g "imm" % 1=0):∀ k∈keysF "S",fieldV "S" ((wordN "S" x y z d s t (g "imm"):Nat):Int) k=g k:=by
 intro k hk
 rw [ks_S] at hk
 simp only [List.mem_cons,List.not_mem_nil,or_false] at hk
 rcases hk with q | q | q<;>rw [q]
 ·rw [hs]; exact back_S_rs1 hx ld ls lt
 ·rw [ht]; exact back_S_rs2 hx ld ls lt
 ·exact immW_S hx ld ls lt h1 h2 h3
theorem plen_S:∀ p∈plF "S",p.1.length≤1000:=by
 rw [pl_S]; decide +kernel
theorem encW_S_rs1_exc {n:Str} {x y z:Nat} (Rw:RowOk n "S" x y z) (g:Str→Int) (hw:¬ (0≤g "rs1" ∧ g "rs1" < 32)):HX (encX [.str n,wrongA "S" g "rs1"]) (fun _=>False) True:=by
 refine enc_of Rw.mem Rw.look ?_
 rw [encW_S_rs1]
 exact placeT_exc plen_S ⟨("rs1",15),by rw [pl_S]; simp,hw⟩
theorem encD_S_rs1_exc {n:Str} {x y z:Nat} (Rw:RowOk n "S" x y z) (g:Str→Int):HX (encX [.str n,dropA "S" g "rs1"]) (fun _=>False) True:=by
 refine enc_of Rw.mem Rw.look ?_
 rw [encD_S_rs1]
 exact placeD_exc plen_S ⟨("rs1",15),by rw [pl_S]; simp,rfl⟩
theorem encW_S_rs2_exc {n:Str} {x y z:Nat} (Rw:RowOk n "S" x y z) (g:Str→Int) (hw:¬ (0≤g "rs2" ∧ g "rs2" < 32)):HX (encX [.str n,wrongA "S" g "rs2"]) (fun _=>False) True:=by
 refine enc_of Rw.mem Rw.look ?_
 rw [encW_S_rs2]
 exact placeT_exc plen_S ⟨("rs2",20),by rw [pl_S]; simp,hw⟩
theorem encD_S_rs2_exc {n:Str} {x y z:Nat} (Rw:RowOk n "S" x y z) (g:Str→Int):HX (encX [.str n,dropA "S" g "rs2"]) (fun _=>False) True:=by
 refine enc_of Rw.mem Rw.look ?_
 rw [encD_S_rs2]
 exact placeD_exc plen_S ⟨("rs2",20),by rw [pl_S]; simp,rfl⟩
theorem encD_S_imm_exc {n:Str} {x y z:Nat} (Rw:RowOk n "S" x y z) (g:Str→Int) (hg:∀ p∈plF "S",0≤g p.1∧g p.1<32):HX (encX [.str n,dropA "S" g "imm"]) (fun _=>False) True:=by
 refine enc_of Rw.mem Rw.look ?_
 rw [encD_S_imm]
 exact placeT_ok hg (excI_hx Rw.len trivial)
theorem encF_S_exc {n:Str} {x y z:Nat} (Rw:RowOk n "S" x y z) (g:Str→Int) (hg:∀ p∈plF "S",0≤g p.1∧g p.1<32) (hr:hrF "S" (g "imm")=false):HX (encX [.str n,fieldsA "S" g]) (fun _=>False) True:=by
 refine enc_of Rw.mem Rw.look ?_
 rw [encR_S]
 have Fi:=fits_ok (f := "S") (by simp [immForms]) Rw.look (g "imm")
 refine placeT_ok hg (hx_need (p:=okB (fitR n (.sym (g "imm")))) Fi.1 (hx_ite (fun _=>excI_hx Rw.len trivial) fun e=>?_))
 have e:(!valB (fitsX [.str n,.sym (g "imm")]))=false:=e
 rw [Fi.2,hr] at e; cases e
theorem pl_B:plF "B" = ([("rs1",15),("rs2",20)]:List (Str×Int)):=by kernel_rfl
theorem ks_B:keysF "B" = (["rs1","rs2","imm"]:List Str):=by kernel_rfl
theorem fldW_B {x y z d s t:Nat} {v:Int} (hx:xyzOk "B" x y z) (hd:d<32) (hs:s<32) (ht:t<32):fld (wordN "B" x y z d s t v) 7 1=pcN v 11 1∧fld (wordN "B" x y z d s t v) 8 4=pcN v 1 4∧fld (wordN "B" x y z d s t v) 25 6=pcN v 5 6∧fld (wordN "B" x y z d s t v) 31 1=pcN v 12 1:=by
 have hx:x<128∧y<8∧z=0:=hx
 have l1:=pc_lt v 11 1
 have l2:=pc_lt v 1 4
 have l6:=pc_lt v 5 6
 have l7:=pc_lt v 12 1
 rw [show wordN "B" x y z d s t v=pk [(7,x),(1,pcN v 11 1),(4,pcN v 1 4),(3,y),(5,s),(5,t),(6,pcN v 5 6),(1,pcN v 12 1)] from rfl]
 exact ⟨(fld_skip (k:=0) (by omega)).trans (fld_head (by omega)),(fld_skip (k:=1) (by omega)).trans ((fld_skip (k:=0) (by omega)).trans (fld_head (by omega))),(fld_skip (k:=18) (by omega)).trans ((fld_skip (k:=17) (by omega)).trans ((fld_skip (k:=13) (by omega)).trans ((fld_skip (k:=10) (by omega)).trans ((fld_skip (k:=5) (by omega)).trans ((fld_skip (k:=0) (by omega)).trans (fld_head (by omega))))))),(fld_skip (k:=24) (by omega)).trans ((fld_skip (k:=23) (by omega)).trans ((fld_skip (k:=19) (by omega)).trans ((fld_skip (k:=16) (by omega)).trans ((fld_skip (k:=11) (by omega)).trans ((fld_skip (k:=6) (by omega)).trans ((fld_skip (k:=0) (by omega)).trans (fld_head (by omega))))))))⟩
theorem immW_B {x y z d s t:Nat} {v:Int} (hx:xyzOk "B" x y z) (hd:d<32) (hs:s<32) (ht:t<32) (h1 : -4096≤v) (h2:v<4096) (h3:v % 2=0):immV "B" ((wordN "B" x y z d s t v:Nat):Int)=v:=by
 have q:=fldW_B (v:=v) hx hd hs ht
 exact immB_B (hitN_B (v:=v) hx hd hs ht).2 h1 h2 h3 q.1 q.2.1 q.2.2.1 q.2.2.2
theorem encOk_B {n:Str} {x y z:Nat} (Rw:RowOk n "B" x y z) {g:Str→Int} {d s t:Nat} (hd:g "rd" = (d:Int)) (hs:g "rs1" = (s:Int)) (ht:g "rs2" = (t:Int)) (ld:d<32) (ls:s<32) (lt:t<32) (h1 : -4096≤g "imm") (h2:g "imm" < 4096) (h3:g "imm" % 2=0):HX (encX [.str n,fieldsA "B" g]) (fun av=>∃ b,intOf av=some (((wordN "B" x y z d s t (g "imm"):Nat):Int),b)) False:=by
 refine enc_of Rw.mem Rw.look ?_
 rw [encR_B]
 refine placeT_ok (fun p hp=>?_) ?_
 ·have hp:p∈plF "B" := hp
  rw [pl_B] at hp
  simp only [List.mem_cons,List.not_mem_nil,or_false] at hp
  rcases hp with q | q<;>rw [q]
  ·show 0≤g "rs1" ∧ g "rs1" < 32
   rw [hs]; omega
  ·show 0≤g "rs2" ∧ g "rs2" < 32
   rw [ht]; omega
 have Fi:=fits_ok (f := "B") (by simp [immForms]) Rw.look (g "imm")
 have hr:hrF "B" (g "imm")=true:=room_B h1 h2 h3
 refine hx_need (p:=okB (fitR n (.sym (g "imm")))) Fi.1 (hx_ite (fun e=>?_) fun _=>hx_bind (hx_mono (bitsN_B h1 h2) fun av e=>?_))
 ·have e:(!valB (fitsX [.str n,.sym (g "imm")]))=true:=e
  rw [Fi.2,hr] at e; cases e
 ·rw [e]
  refine hx_ret ⟨true,?_⟩
  show some (bo (bo (bo (((baseN "B" x y z:Nat):Int)) (g "rs1" * 2 ^ (15:Int).toNat)) (g "rs2" * 2 ^ (20:Int).toNat)) ((wordN "B" 0 0 0 0 0 0 (g "imm"):Nat):Int),true)=_
  rw [hs,ht,encN_B Rw.xyz ld ls lt]
theorem backs_B {x y z:Nat} {g:Str→Int} {d s t:Nat} (hx:xyzOk "B" x y z) (hd:g "rd" = (d:Int)) (hs:g "rs1" = (s:Int)) (ht:g "rs2" = (t:Int)) (ld:d<32) (ls:s<32) (lt:t<32) (h1 : -4096≤g "imm") (h2:g "imm" < 4096) (h3:g "imm" % 2=0):∀ k∈keysF "B",fieldV "B" ((wordN "B" x y z d s t (g "imm"):Nat):Int) k=g k:=by
 intro k hk
 rw [ks_B] at hk
 simp only [List.mem_cons,List.not_mem_nil,or_false] at hk
 rcases hk with q | q | q<;>rw [q]
 ·rw [hs]; exact back_B_rs1 hx ld ls lt
 ·rw [ht]; exact back_B_rs2 hx ld ls lt
 ·exact immW_B hx ld ls lt h1 h2 h3
theorem plen_B:∀ p∈plF "B",p.1.length≤1000:=by
 rw [pl_B]; decide +kernel
theorem encW_B_rs1_exc {n:Str} {x y z:Nat} (Rw:RowOk n "B" x y z) (g:Str→Int) (hw:¬ (0≤g "rs1" ∧ g "rs1" < 32)):HX (encX [.str n,wrongA "B" g "rs1"]) (fun _=>False) True:=by
 refine enc_of Rw.mem Rw.look ?_
 rw [encW_B_rs1]
 exact placeT_exc plen_B ⟨("rs1",15),by rw [pl_B]; simp,hw⟩
theorem encD_B_rs1_exc {n:Str} {x y z:Nat} (Rw:RowOk n "B" x y z) (g:Str→Int):HX (encX [.str n,dropA "B" g "rs1"]) (fun _=>False) True:=by
 refine enc_of Rw.mem Rw.look ?_
 rw [encD_B_rs1]
 exact placeD_exc plen_B ⟨("rs1",15),by rw [pl_B]; simp,rfl⟩
theorem encW_B_rs2_exc {n:Str} {x y z:Nat} (Rw:RowOk n "B" x y z) (g:Str→Int) (hw:¬ (0≤g "rs2" ∧ g "rs2" < 32)):HX (encX [.str n,wrongA "B" g "rs2"]) (fun _=>False) True:=by
 refine enc_of Rw.mem Rw.look ?_
 rw [encW_B_rs2]
 exact placeT_exc plen_B ⟨("rs2",20),by rw [pl_B]; simp,hw⟩
theorem encD_B_rs2_exc {n:Str} {x y z:Nat} (Rw:RowOk n "B" x y z) (g:Str→Int):HX (encX [.str n,dropA "B" g "rs2"]) (fun _=>False) True:=by
 refine enc_of Rw.mem Rw.look ?_
 rw [encD_B_rs2]
 exact placeD_exc plen_B ⟨("rs2",20),by rw [pl_B]; simp,rfl⟩
theorem encD_B_imm_exc {n:Str} {x y z:Nat} (Rw:RowOk n "B" x y z) (g:Str→Int) (hg:∀ p∈plF "B",0≤g p.1∧g p.1<32):HX (encX [.str n,dropA "B" g "imm"]) (fun _=>False) True:=by
 refine enc_of Rw.mem Rw.look ?_
 rw [encD_B_imm]
 exact placeT_ok hg (excI_hx Rw.len trivial)
theorem encF_B_exc {n:Str} {x y z:Nat} (Rw:RowOk n "B" x y z) (g:Str→Int) (hg:∀ p∈plF "B",0≤g p.1∧g p.1<32) (hr:hrF "B" (g "imm")=false):HX (encX [.str n,fieldsA "B" g]) (fun _=>False) True:=by
 refine enc_of Rw.mem Rw.look ?_
 rw [encR_B]
 have Fi:=fits_ok (f := "B") (by simp [immForms]) Rw.look (g "imm")
 refine placeT_ok hg (hx_need (p:=okB (fitR n (.sym (g "imm")))) Fi.1 (hx_ite (fun _=>excI_hx Rw.len trivial) fun e=>?_))
 have e:(!valB (fitsX [.str n,.sym (g "imm")]))=false:=e
 rw [Fi.2,hr] at e; cases e
theorem pl_U:plF "U" = ([("rd",7)]:List (Str×Int)):=by kernel_rfl
theorem ks_U:keysF "U" = (["rd","imm"]:List Str):=by kernel_rfl
theorem fldW_U {x y z d s t:Nat} {v:Int} (hx:xyzOk "U" x y z) (hd:d<32) (hs:s<32) (ht:t<32):fld (wordN "U" x y z d s t v) 12 20=pcN v 0 20:=by
 have hx:x<128∧y=0∧z=0:=hx
 have l2:=pc_lt v 0 20
 rw [show wordN "U" x y z d s t v=pk [(7,x),(5,d),(20,pcN v 0 20)] from rfl]
 exact (fld_skip (k:=5) (by omega)).trans ((fld_skip (k:=0) (by omega)).trans (fld_head (by omega)))
theorem immW_U {x y z d s t:Nat} {v:Int} (hx:xyzOk "U" x y z) (hd:d<32) (hs:s<32) (ht:t<32) (h1:0≤v) (h2:v<1048576) (h3:v % 1=0):immV "U" ((wordN "U" x y z d s t v:Nat):Int)=v:=by
 have q:=fldW_U (v:=v) hx hd hs ht
 exact immB_U (hitN_U (v:=v) hx hd hs ht).2 h1 h2 h3 q
theorem encOk_U {n:Str} {x y z:Nat} (Rw:RowOk n "U" x y z) {g:Str→Int} {d s t:Nat} (hd:g "rd" = (d:Int)) (hs:g "rs1" = (s:Int)) (ht:g "rs2" = (t:Int)) (ld:d<32) (ls:s<32) (lt:t<32) (h1:0≤g "imm") (h2:g "imm" < 1048576) (h3:g "imm" % 1=0):HX (encX [.str n,fieldsA "U" g]) (fun av=>∃ b,intOf av=some (((wordN "U" x y z d s t (g "imm"):Nat):Int),b)) False:=by
 refine enc_of Rw.mem Rw.look ?_
 rw [encR_U]
 refine placeT_ok (fun p hp=>?_) ?_
 ·have hp:p∈plF "U" := hp
  rw [pl_U] at hp
  simp only [List.mem_cons,List.not_mem_nil,or_false] at hp
  rw [hp]
  ·show 0≤g "rd" ∧ g "rd" < 32
   rw [hd]; omega
 have Fi:=fits_ok (f := "U") (by simp [immForms]) Rw.look (g "imm")
 have hr:hrF "U" (g "imm")=true:=room_U h1 h2 h3
 refine hx_need (p:=okB (fitR n (.sym (g "imm")))) Fi.1 (hx_ite (fun e=>?_) fun _=>hx_bind (hx_mono (bitsN_U h1 h2) fun av e=>?_))
 ·have e:(!valB (fitsX [.str n,.sym (g "imm")]))=true:=e
  rw [Fi.2,hr] at e; cases e
 ·rw [e]
  refine hx_ret ⟨true,?_⟩
  show some (bo (bo (((baseN "U" x y z:Nat):Int)) (g "rd" * 2 ^ (7:Int).toNat)) ((wordN "U" 0 0 0 0 0 0 (g "imm"):Nat):Int),true)=_
  rw [hd,encN_U Rw.xyz ld ls lt]
theorem backs_U {x y z:Nat} {g:Str→Int} {d s t:Nat} (hx:xyzOk "U" x y z) (hd:g "rd" = (d:Int)) (hs:g "rs1" = (s:Int)) (ht:g "rs2" = (t:Int)) (ld:d<32) (ls:s<32) (lt:t<32) (h1:0≤g "imm") (h2:g "imm" < 1048576) (h3:g "imm" % 1=0):∀ k∈keysF "U",fieldV "U" ((wordN "U" x y z d s t (g "imm"):Nat):Int) k=g k:=by
 intro k hk
 rw [ks_U] at hk
 simp only [List.mem_cons,List.not_mem_nil,or_false] at hk
 rcases hk with q | q<;>rw [q]
 ·rw [hd]; exact back_U_rd hx ld ls lt
 ·exact immW_U hx ld ls lt h1 h2 h3
theorem plen_U:∀ p∈plF "U",p.1.length≤1000:=by
 rw [pl_U]; decide +kernel
theorem encW_U_rd_exc {n:Str} {x y z:Nat} (Rw:RowOk n "U" x y z) (g:Str→Int) (hw:¬ (0≤g "rd" ∧ g "rd" < 32)):HX (encX [.str n,wrongA "U" g "rd"]) (fun _=>False) True:=by
 refine enc_of Rw.mem Rw.look ?_
 rw [encW_U_rd]
 exact placeT_exc plen_U ⟨("rd",7),by rw [pl_U]; simp,hw⟩
theorem encD_U_rd_exc {n:Str} {x y z:Nat} (Rw:RowOk n "U" x y z) (g:Str→Int):HX (encX [.str n,dropA "U" g "rd"]) (fun _=>False) True:=by
 refine enc_of Rw.mem Rw.look ?_
 rw [encD_U_rd]
 exact placeD_exc plen_U ⟨("rd",7),by rw [pl_U]; simp,rfl⟩
theorem encD_U_imm_exc {n:Str} {x y z:Nat} (Rw:RowOk n "U" x y z) (g:Str→Int) (hg:∀ p∈plF "U",0≤g p.1∧g p.1<32):HX (encX [.str n,dropA "U" g "imm"]) (fun _=>False) True:=by
 refine enc_of Rw.mem Rw.look ?_
 rw [encD_U_imm]
 exact placeT_ok hg (excI_hx Rw.len trivial)
theorem encF_U_exc {n:Str} {x y z:Nat} (Rw:RowOk n "U" x y z) (g:Str→Int) (hg:∀ p∈plF "U",0≤g p.1∧g p.1<32) (hr:hrF "U" (g "imm")=false):HX (encX [.str n,fieldsA "U" g]) (fun _=>False) True:=by
 refine enc_of Rw.mem Rw.look ?_
 rw [encR_U]
 have Fi:=fits_ok (f := "U") (by simp [immForms]) Rw.look (g "imm")
 refine placeT_ok hg (hx_need (p:=okB (fitR n (.sym (g "imm")))) Fi.1 (hx_ite (fun _=>excI_hx Rw.len trivial) fun e=>?_))
 have e:(!valB (fitsX [.str n,.sym (g "imm")]))=false:=e
 rw [Fi.2,hr] at e; cases e
theorem pl_J:plF "J" = ([("rd",7)]:List (Str×Int)):=by kernel_rfl
theorem ks_J:keysF "J" = (["rd","imm"]:List Str):=by kernel_rfl
theorem fldW_J {x y z d s t:Nat} {v:Int} (hx:xyzOk "J" x y z) (hd:d<32) (hs:s<32) (ht:t<32):fld (wordN "J" x y z d s t v) 12 8=pcN v 12 8∧fld (wordN "J" x y z d s t v) 20 1=pcN v 11 1∧fld (wordN "J" x y z d s t v) 21 10=pcN v 1 10∧fld (wordN "J" x y z d s t v) 31 1=pcN v 20 1:=by
 have hx:x<128∧y=0∧z=0:=hx
 have l2:=pc_lt v 12 8
 have l3:=pc_lt v 11 1
 have l4:=pc_lt v 1 10
 have l5:=pc_lt v 20 1
 rw [show wordN "J" x y z d s t v=pk [(7,x),(5,d),(8,pcN v 12 8),(1,pcN v 11 1),(10,pcN v 1 10),(1,pcN v 20 1)] from rfl]
 exact ⟨(fld_skip (k:=5) (by omega)).trans ((fld_skip (k:=0) (by omega)).trans (fld_head (by omega))),(fld_skip (k:=13) (by omega)).trans ((fld_skip (k:=8) (by omega)).trans ((fld_skip (k:=0) (by omega)).trans (fld_head (by omega)))),(fld_skip (k:=14) (by omega)).trans ((fld_skip (k:=9) (by omega)).trans ((fld_skip (k:=1) (by omega)).trans ((fld_skip (k:=0) (by omega)).trans (fld_head (by omega))))),(fld_skip (k:=24) (by omega)).trans ((fld_skip (k:=19) (by omega)).trans ((fld_skip (k:=11) (by omega)).trans ((fld_skip (k:=10) (by omega)).trans ((fld_skip (k:=0) (by omega)).trans (fld_head (by omega))))))⟩
theorem immW_J {x y z d s t:Nat} {v:Int} (hx:xyzOk "J" x y z) (hd:d<32) (hs:s<32) (ht:t<32) (h1 : -1048576≤v) (h2:v<1048576) (h3:v % 2=0):immV "J" ((wordN "J" x y z d s t v:Nat):Int)=v:=by
 have q:=fldW_J (v:=v) hx hd hs ht
 exact immB_J (hitN_J (v:=v) hx hd hs ht).2 h1 h2 h3 q.1 q.2.1 q.2.2.1 q.2.2.2
theorem encOk_J {n:Str} {x y z:Nat} (Rw:RowOk n "J" x y z) {g:Str→Int} {d s t:Nat} (hd:g "rd" = (d:Int)) (hs:g "rs1" = (s:Int)) (ht:g "rs2" = (t:Int)) (ld:d<32) (ls:s<32) (lt:t<32) (h1 : -1048576≤g "imm") (h2:g "imm" < 1048576) (h3:g "imm" % 2=0):HX (encX [.str n,fieldsA "J" g]) (fun av=>∃ b,intOf av=some (((wordN "J" x y z d s t (g "imm"):Nat):Int),b)) False:=by
 refine enc_of Rw.mem Rw.look ?_
 rw [encR_J]
 refine placeT_ok (fun p hp=>?_) ?_
 ·have hp:p∈plF "J" := hp
  rw [pl_J] at hp
  simp only [List.mem_cons,List.not_mem_nil,or_false] at hp
  rw [hp]
  ·show 0≤g "rd" ∧ g "rd" < 32
   rw [hd]; omega
 have Fi:=fits_ok (f := "J") (by simp [immForms]) Rw.look (g "imm")
 have hr:hrF "J" (g "imm")=true:=room_J h1 h2 h3
 refine hx_need (p:=okB (fitR n (.sym (g "imm")))) Fi.1 (hx_ite (fun e=>?_) fun _=>hx_bind (hx_mono (bitsN_J h1 h2) fun av e=>?_))
 ·have e:(!valB (fitsX [.str n,.sym (g "imm")]))=true:=e
  rw [Fi.2,hr] at e; cases e
 ·rw [e]
  refine hx_ret ⟨true,?_⟩
  show some (bo (bo (((baseN "J" x y z:Nat):Int)) (g "rd" * 2 ^ (7:Int).toNat)) ((wordN "J" 0 0 0 0 0 0 (g "imm"):Nat):Int),true)=_
  rw [hd,encN_J Rw.xyz ld ls lt]
theorem backs_J {x y z:Nat} {g:Str→Int} {d s t:Nat} (hx:xyzOk "J" x y z) (hd:g "rd" = (d:Int)) (hs:g "rs1" = (s:Int)) (ht:g "rs2" = (t:Int)) (ld:d<32) (ls:s<32) (lt:t<32) (h1 : -1048576≤g "imm") (h2:g "imm" < 1048576) (h3:g "imm" % 2=0):∀ k∈keysF "J",fieldV "J" ((wordN "J" x y z d s t (g "imm"):Nat):Int) k=g k:=by
 intro k hk
 rw [ks_J] at hk
 simp only [List.mem_cons,List.not_mem_nil,or_false] at hk
 rcases hk with q | q<;>rw [q]
 ·rw [hd]; exact back_J_rd hx ld ls lt
 ·exact immW_J hx ld ls lt h1 h2 h3
theorem plen_J:∀ p∈plF "J",p.1.length≤1000:=by
 rw [pl_J]; decide +kernel
theorem encW_J_rd_exc {n:Str} {x y z:Nat} (Rw:RowOk n "J" x y z) (g:Str→Int) (hw:¬ (0≤g "rd" ∧ g "rd" < 32)):HX (encX [.str n,wrongA "J" g "rd"]) (fun _=>False) True:=by
 refine enc_of Rw.mem Rw.look ?_
 rw [encW_J_rd]
 exact placeT_exc plen_J ⟨("rd",7),by rw [pl_J]; simp,hw⟩
theorem encD_J_rd_exc {n:Str} {x y z:Nat} (Rw:RowOk n "J" x y z) (g:Str→Int):HX (encX [.str n,dropA "J" g "rd"]) (fun _=>False) True:=by
 refine enc_of Rw.mem Rw.look ?_
 rw [encD_J_rd]
 exact placeD_exc plen_J ⟨("rd",7),by rw [pl_J]; simp,rfl⟩
theorem encD_J_imm_exc {n:Str} {x y z:Nat} (Rw:RowOk n "J" x y z) (g:Str→Int) (hg:∀ p∈plF "J",0≤g p.1∧g p.1<32):HX (encX [.str n,dropA "J" g "imm"]) (fun _=>False) True:=by
 refine enc_of Rw.mem Rw.look ?_
 rw [encD_J_imm]
 exact placeT_ok hg (excI_hx Rw.len trivial)
theorem encF_J_exc {n:Str} {x y z:Nat} (Rw:RowOk n "J" x y z) (g:Str→Int) (hg:∀ p∈plF "J",0≤g p.1∧g p.1<32) (hr:hrF "J" (g "imm")=false):HX (encX [.str n,fieldsA "J" g]) (fun _=>False) True:=by
 refine enc_of Rw.mem Rw.look ?_
 rw [encR_J]
 have Fi:=fits_ok (f := "J") (by simp [immForms]) Rw.look (g "imm")
 refine placeT_ok hg (hx_need (p:=okB (fitR n (.sym (g "imm")))) Fi.1 (hx_ite (fun _=>excI_hx Rw.len trivial) fun e=>?_))
 have e:(!valB (fitsX [.str n,.sym (g "imm")]))=false:=e
 rw [Fi.2,hr] at e; cases e
theorem pl_F:plF "F" = ([]:List (Str×Int)):=by kernel_rfl
theorem ks_F:keysF "F" = (["imm"]:List Str):=by kernel_rfl
theorem fldW_F {x y z d s t:Nat} {v:Int} (hx:xyzOk "F" x y z) (hd:d<32) (hs:s<32) (ht:t<32):fld (wordN "F" x y z d s t v) 20 8=pcN v 0 8:=by
 have hx:x<128∧y<8∧z=0:=hx
 have l4:=pc_lt v 0 8
 rw [show wordN "F" x y z d s t v=pk [(7,x),(5,0),(3,y),(5,0),(8,pcN v 0 8),(4,0)] from rfl]
 exact (fld_skip (k:=13) (by omega)).trans ((fld_skip (k:=8) (by omega)).trans ((fld_skip (k:=5) (by omega)).trans ((fld_skip (k:=0) (by omega)).trans (fld_head (by omega)))))
theorem immW_F {x y z d s t:Nat} {v:Int} (hx:xyzOk "F" x y z) (hd:d<32) (hs:s<32) (ht:t<32) (h1:0≤v) (h2:v<256) (h3:v % 1=0):immV "F" ((wordN "F" x y z d s t v:Nat):Int)=v:=by
 have q:=fldW_F (v:=v) hx hd hs ht
 exact immB_F (hitN_F (v:=v) hx hd hs ht).2 h1 h2 h3 q
theorem encOk_F {n:Str} {x y z:Nat} (Rw:RowOk n "F" x y z) {g:Str→Int} {d s t:Nat} (hd:g "rd" = (d:Int)) (hs:g "rs1" = (s:Int)) (ht:g "rs2" = (t:Int)) (ld:d<32) (ls:s<32) (lt:t<32) (h1:0≤g "imm") (h2:g "imm" < 256) (h3:g "imm" % 1=0):HX (encX [.str n,fieldsA "F" g]) (fun av=>∃ b,intOf av=some (((wordN "F" x y z d s t (g "imm"):Nat):Int),b)) False:=by
 refine enc_of Rw.mem Rw.look ?_
 rw [encR_F]
 refine placeT_ok (fun p hp=>?_) ?_
 ·have hp:p∈plF "F" := hp
  rw [pl_F] at hp
  simp only [List.mem_cons,List.not_mem_nil,or_false] at hp
 have Fi:=fits_ok (f := "F") (by simp [immForms]) Rw.look (g "imm")
 have hr:hrF "F" (g "imm")=true:=room_F h1 h2 h3
 refine hx_need (p:=okB (fitR n (.sym (g "imm")))) Fi.1 (hx_ite (fun e=>?_) fun _=>hx_bind (hx_mono (bitsN_F h1 h2) fun av e=>?_))
 ·have e:(!valB (fitsX [.str n,.sym (g "imm")]))=true:=e
  rw [Fi.2,hr] at e; cases e
 ·rw [e]
  refine hx_ret ⟨true,?_⟩
  show some (bo (((baseN "F" x y z:Nat):Int)) ((wordN "F" 0 0 0 0 0 0 (g "imm"):Nat):Int),true)=_
  rw [encN_F Rw.xyz ld ls lt]
theorem backs_F {x y z:Nat} {g:Str→Int} {d s t:Nat} (hx:xyzOk "F" x y z) (hd:g "rd" = (d:Int)) (hs:g "rs1" = (s:Int)) (ht:g "rs2" = (t:Int)) (ld:d<32) (ls:s<32) (lt:t<32) (h1:0≤g "imm") (h2:g "imm" < 256) (h3:g "imm" % 1=0):∀ k∈keysF "F",fieldV "F" ((wordN "F" x y z d s t (g "imm"):Nat):Int) k=g k:=by
 intro k hk
 rw [ks_F] at hk
 simp only [List.mem_cons,List.not_mem_nil,or_false] at hk
 rw [hk]
 ·exact immW_F hx ld ls lt h1 h2 h3
theorem plen_F:∀ p∈plF "F",p.1.length≤1000:=by
 rw [pl_F]; decide +kernel
theorem encD_F_imm_exc {n:Str} {x y z:Nat} (Rw:RowOk n "F" x y z) (g:Str→Int) (hg:∀ p∈plF "F",0≤g p.1∧g p.1<32):HX (encX [.str n,dropA "F" g "imm"]) (fun _=>False) True:=by
 refine enc_of Rw.mem Rw.look ?_
 rw [encD_F_imm]
 exact placeT_ok hg (excI_hx Rw.len trivial)
theorem encF_F_exc {n:Str} {x y z:Nat} (Rw:RowOk n "F" x y z) (g:Str→Int) (hg:∀ p∈plF "F",0≤g p.1∧g p.1<32) (hr:hrF "F" (g "imm")=false):HX (encX [.str n,fieldsA "F" g]) (fun _=>False) True:=by
 refine enc_of Rw.mem Rw.look ?_
 rw [encR_F]
 have Fi:=fits_ok (f := "F") (by simp [immForms]) Rw.look (g "imm")
 refine placeT_ok hg (hx_need (p:=okB (fitR n (.sym (g "imm")))) Fi.1 (hx_ite (fun _=>excI_hx Rw.len trivial) fun e=>?_))
 have e:(!valB (fitsX [.str n,.sym (g "imm")]))=false:=e
 rw [Fi.2,hr] at e; cases e
theorem pl_E:plF "E" = ([]:List (Str×Int)):=by kernel_rfl
theorem ks_E:keysF "E" = ([]:List Str):=by kernel_rfl
theorem encOk_E {n:Str} {x y z:Nat} (Rw:RowOk n "E" x y z) {g:Str→Int} {d s t:Nat} (hd:g "rd" = (d:Int)) (hs:g "rs1" = (s:Int)) (ht:g "rs2" = (t:Int)) (ld:d<32) (ls:s<32) (lt:t<32):HX (encX [.str n,fieldsA "E" g]) (fun av=>∃ b,intOf av=some (((wordN "E" x y z d s t (g "imm"):Nat):Int),b)) False:=by
 refine enc_of Rw.mem Rw.look ?_
 rw [encR_E]
 refine placeT_ok (fun p hp=>?_) ?_
 ·have hp:p∈plF "E" := hp
  rw [pl_E] at hp
  simp only [List.mem_cons,List.not_mem_nil,or_false] at hp
 refine hx_ret ⟨false,?_⟩
 show some ((((baseN "E" x y z:Nat):Int)),false)=_
 have hx:x<128∧y=0∧z<33554432:=Rw.xyz
 rw [show baseN "E" x y z=wordN "E" x y z d s t (g "imm") by show x+y*4096+z*128=pk [(7,x),(25,z)]; simp only [pk]; omega]
theorem backs_E {x y z:Nat} {g:Str→Int} {d s t:Nat} (hx:xyzOk "E" x y z) (hd:g "rd" = (d:Int)) (hs:g "rs1" = (s:Int)) (ht:g "rs2" = (t:Int)) (ld:d<32) (ls:s<32) (lt:t<32):∀ k∈keysF "E",fieldV "E" ((wordN "E" x y z d s t (g "imm"):Nat):Int) k=g k:=by
 intro k hk
 rw [ks_E] at hk
 simp only [List.mem_cons,List.not_mem_nil,or_false] at hk
theorem plen_E:∀ p∈plF "E",p.1.length≤1000:=by
 rw [pl_E]; decide +kernel
end
end Mine
end
section
open PySem.SeqAt MineH
namespace Mine
section
variable {prog:Program} {w:World} {h:Heap}
structure RegOk (g:Str→Int) (d s t:Nat):Prop where
 hd:g "rd" = (d:Int)
 hs:g "rs1" = (s:Int)
 ht:g "rs2" = (t:Int)
 ld:d<32
 ls:s<32
 lt:t<32
theorem RegOk.places {g:Str→Int} {d s t:Nat} (r:RegOk g d s t):∀ f∈formsL,∀ p∈plF f,0≤g p.1∧g p.1<32:=by
 have a:0≤g "rd" ∧ g "rd" < 32:=by have:=r.ld; rw [r.hd]; omega
 have b:0≤g "rs1" ∧ g "rs1" < 32:=by have:=r.ls; rw [r.hs]; omega
 have c:0≤g "rs2" ∧ g "rs2" < 32:=by have:=r.lt; rw [r.ht]; omega
 have key:∀ (l:List (Str×Int)),(∀ p∈l,p.1 = "rd" ∨ p.1 = "rs1" ∨ p.1 = "rs2")→∀ p∈l,0≤g p.1∧g p.1<32:=fun l hl p hp=>by
  rcases hl p hp with q | q | q<;>rw [q]
  ·exact a
  ·exact b
  ·exact c
 have all:∀ f∈formsL,∀ p∈plF f,p.1 = "rd" ∨ p.1 = "rs1" ∨ p.1 = "rs2" := by decide +kernel
 exact fun f hf=>key _ (all f hf)
theorem imm_forms:∀ f∈immForms,f∈formsL:=by decide +kernel
abbrev wordG (f:Str) (x y z d s t:Nat) (g:Str→Int):Nat:=wordN f x y z d s t (g "imm")
theorem encOkI {n:Str} {x y z d s t:Nat} {g:Str→Int} (r:RegOk g d s t):∀ f∈immForms,RowOk n f x y z→hrF f (g "imm")=true→HX (encX [.str n,fieldsA f g]) (fun av=>∃ b,intOf av=some (((wordG f x y z d s t g:Nat):Int),b)) False:=by
 obtain ⟨hd,hs,ht,ld,ls,lt⟩:=r
 refine by7 ?_ ?_ ?_ ?_ ?_ ?_ ?_<;>intro Rw hr
 ·have q:=roomN_I hr; exact encOk_I Rw hd hs ht ld ls lt q.1 q.2.1 q.2.2
 ·have q:=roomN_H hr; exact encOk_H Rw hd hs ht ld ls lt q.1 q.2.1 q.2.2
 ·have q:=roomN_S hr; exact encOk_S Rw hd hs ht ld ls lt q.1 q.2.1 q.2.2
 ·have q:=roomN_B hr; exact encOk_B Rw hd hs ht ld ls lt q.1 q.2.1 q.2.2
 ·have q:=roomN_U hr; exact encOk_U Rw hd hs ht ld ls lt q.1 q.2.1 q.2.2
 ·have q:=roomN_J hr; exact encOk_J Rw hd hs ht ld ls lt q.1 q.2.1 q.2.2
 ·have q:=roomN_F hr; exact encOk_F Rw hd hs ht ld ls lt q.1 q.2.1 q.2.2
theorem encFI {n:Str} {x y z d s t:Nat} {g:Str→Int} (r:RegOk g d s t):∀ f∈immForms,RowOk n f x y z→hrF f (g "imm")=false→HX (encX [.str n,fieldsA f g]) (fun _=>False) True:=by
 have pl:=r.places
 refine by7 ?_ ?_ ?_ ?_ ?_ ?_ ?_<;>intro Rw hr
 ·exact encF_I_exc Rw g (pl _ Rw.form) hr
 ·exact encF_H_exc Rw g (pl _ Rw.form) hr
 ·exact encF_S_exc Rw g (pl _ Rw.form) hr
 ·exact encF_B_exc Rw g (pl _ Rw.form) hr
 ·exact encF_U_exc Rw g (pl _ Rw.form) hr
 ·exact encF_J_exc Rw g (pl _ Rw.form) hr
 ·exact encF_F_exc Rw g (pl _ Rw.form) hr
theorem encDI {n:Str} {x y z d s t:Nat} {g:Str→Int} (r:RegOk g d s t):∀ f∈immForms,RowOk n f x y z→HX (encX [.str n,dropA f g "imm"]) (fun _=>False) True:=by
 have pl:=r.places
 refine by7 ?_ ?_ ?_ ?_ ?_ ?_ ?_<;>intro Rw
 ·exact encD_I_imm_exc Rw g (pl _ Rw.form)
 ·exact encD_H_imm_exc Rw g (pl _ Rw.form)
 ·exact encD_S_imm_exc Rw g (pl _ Rw.form)
 ·exact encD_B_imm_exc Rw g (pl _ Rw.form)
 ·exact encD_U_imm_exc Rw g (pl _ Rw.form)
 ·exact encD_J_imm_exc Rw g (pl _ Rw.form)
 ·exact encD_F_imm_exc Rw g (pl _ Rw.form)
theorem backsI {x y z d s t:Nat} {g:Str→Int} (r:RegOk g d s t):∀ f∈immForms,xyzOk f x y z→hrF f (g "imm")=true→∀ k∈keysF f,fieldV f ((wordG f x y z d s t g:Nat):Int) k=g k:=by
 obtain ⟨hd,hs,ht,ld,ls,lt⟩:=r
 refine by7 ?_ ?_ ?_ ?_ ?_ ?_ ?_<;>intro hx hr
 ·have q:=roomN_I hr; exact backs_I hx hd hs ht ld ls lt q.1 q.2.1 q.2.2
 ·have q:=roomN_H hr; exact backs_H hx hd hs ht ld ls lt q.1 q.2.1 q.2.2
 ·have q:=roomN_S hr; exact backs_S hx hd hs ht ld ls lt q.1 q.2.1 q.2.2
 ·have q:=roomN_B hr; exact backs_B hx hd hs ht ld ls lt q.1 q.2.1 q.2.2
 ·have q:=roomN_U hr; exact backs_U hx hd hs ht ld ls lt q.1 q.2.1 q.2.2
 ·have q:=roomN_J hr; exact backs_J hx hd hs ht ld ls lt q.1 q.2.1 q.2.2
 ·have q:=roomN_F hr; exact backs_F hx hd hs ht ld ls lt q.1 q.2.1 q.2.2
theorem hitG {x y z d s t:Nat} (v:Int) (ld:d<32) (ls:s<32) (lt:t<32):∀ f∈formsL,xyzOk f x y z→wordN f x y z d s t v &&& mkN f=baseN f x y z∧wordN f x y z d s t v<4294967296:=
 by9 (fun h=>hitN_R h ld ls lt) (fun h=>hitN_I h ld ls lt) (fun h=>hitN_H h ld ls lt) (fun h=>hitN_S h ld ls lt) (fun h=>hitN_B h ld ls lt) (fun h=>hitN_U h ld ls lt) (fun h=>hitN_J h ld ls lt) (fun h=>hitN_F h ld ls lt) (fun h=>hitN_E h ld ls lt)
theorem layG {x y z d s t:Nat} (v:Int) (ld:d<32) (ls:s<32) (lt:t<32):∀ f∈formsL,xyzOk f x y z→lay 0 (layL f x y z d s t v)=((wordN f x y z d s t v:Nat):Int):=
 by9 (fun h=>layN_R h ld ls lt) (fun h=>layN_I h ld ls lt) (fun h=>layN_H h ld ls lt) (fun h=>layN_S h ld ls lt) (fun h=>layN_B h ld ls lt) (fun h=>layN_U h ld ls lt) (fun h=>layN_J h ld ls lt) (fun h=>layN_F h ld ls lt) (fun h=>layN_E h ld ls lt)
theorem layT_hx:∀ (l:List (Int×Nat)) (a:Int) (n:Nat),0≤a→a<2 ^ n→n+l.length≤64→HX (layT a l) (fun av=>av=.sym (lay a l)) False
 | [],a,n,_,_,_=>⟨rfl⟩
 | (v,p) :: l,a,n,h1,h2,h3=>by
  have b:=bitV_eq v p
  rw [List.length_cons] at h3
  have le:(2:Int) ^ n≤2 ^ 63:=by
   have:=Nat.pow_le_pow_right (n:=2) (by decide) (show n≤63 by omega)
   exact_mod_cast this
  exact hx_need (by omega) (layT_hx l (a*2+bitV v p) (n+1) (by omega) (by rw [Int.pow_succ]; omega) (by omega))
theorem layF_hx:∀ (k:Nat) (l:List (Int×Nat)) (a:Int) (n:Nat),0≤a→a<2 ^ n→n+l.length≤64→HX (layF k a l) (fun av=>av=.sym (lay a l)) False
 | 0,l,a,n,h1,h2,h3=>layT_hx l a n h1 h2 h3
 | _+1,[],a,n,_,_,_=>⟨rfl⟩
 | k+1,(v,p) :: l,a,n,h1,h2,h3=>by
  have b:=bitV_eq v p
  rw [List.length_cons] at h3
  exact layF_hx k l (a*2+bitV v p) (n+1) (by omega) (by rw [Int.pow_succ]; omega) (by omega)
theorem layL_len (x y z d s t v:Int):∀ f∈formsL,(layL f x y z d s t v).length=32:=by9 rfl rfl rfl rfl rfl rfl rfl rfl rfl
theorem okI_sym {x:R AV} {i:Int} (h:HX x (fun av=>av=.sym i) False):okI x∧valI x=i:=okI_of (R.holds_mono (fun _ e=>⟨true,by rw [e]; rfl⟩) id h.out)
theorem dueOk (v:Int):∀ f∈immForms,okI (dueR f v)∧valI (dueR f v)=((wordN f 0 0 0 0 0 0 v:Nat):Int):=by
 intro f hf
 have hx:xyzOk f 0 0 0:=(by7 (Q:=fun f=>xyzOk f 0 0 0) ⟨by decide,by decide,rfl⟩ ⟨by decide,by decide,by decide⟩ ⟨by decide,by decide,rfl⟩ ⟨by decide,by decide,rfl⟩ ⟨by decide,rfl,rfl⟩ ⟨by decide,rfl,rfl⟩ ⟨by decide,by decide,rfl⟩) f hf
 have e:=layG (x:=0) (y:=0) (z:=0) (d:=0) (s:=0) (t:=0) v (by decide) (by decide) (by decide) f (imm_forms f hf) hx
 refine okI_sym (x:=dueR f v) ?_
 have q:dueR f v=laidX [drF f,.dS ["i"] [.sym v]]:=(by7 (Q:=fun f=>dueR f v=laidX [drF f,.dS ["i"] [.sym v]]) (by kernel_rfl) (by kernel_rfl) (by kernel_rfl) (by kernel_rfl) (by kernel_rfl) (by kernel_rfl) (by kernel_rfl)) f hf
 rw [q,laid1 v f hf,← e]
 exact layF_hx _ _ 0 0 (by decide) (by decide) (by rw [layL_len _ _ _ _ _ _ _ f (imm_forms f hf)]; decide)
theorem bitsG {v:Int}:∀ f∈immForms,hrF f v=true→HX (bitsX [.str f,.sym v]) (fun av=>av=.sym ((wordN f 0 0 0 0 0 0 v:Nat):Int)) False:=by
 refine by7 ?_ ?_ ?_ ?_ ?_ ?_ ?_<;>intro hr
 ·have q:=roomN_I hr; exact bitsN_I q.1 q.2.1
 ·have q:=roomN_H hr; exact bitsN_H q.1 q.2.1
 ·have q:=roomN_S hr; exact bitsN_S q.1 q.2.1
 ·have q:=roomN_B hr; exact bitsN_B q.1 q.2.1
 ·have q:=roomN_U hr; exact bitsN_U q.1 q.2.1
 ·have q:=roomN_J hr; exact bitsN_J q.1 q.2.1
 ·have q:=roomN_F hr; exact bitsN_F q.1 q.2.1
theorem bitOk {v:Int} {f:Str} (hf:f∈immForms) (hr:hrF f v=true):okI (bitR f v)∧valI (bitR f v)=((wordN f 0 0 0 0 0 0 v:Nat):Int):=okI_sym (x:=bitR f v) (bitsG f hf hr)
theorem chgG {B:Nat} (hB:B<4294967296) {v:Int}:∀ f∈immForms,hrF f v=true→∃ X:Nat,X<4294967296∧bo (Builtin.bitAnd (Builtin.bitAnd (B:Int) (Builtin.bitNot (maskF f))) 4294967295) ((wordN f 0 0 0 0 0 0 v:Nat):Int)=(X:Int)∧(X:Int)=(B:Int) - Builtin.bitAnd (B:Int) (maskF f)+((wordN f 0 0 0 0 0 0 v:Nat):Int)∧immV f (X:Int)=v:=by
 refine by7 ?_ ?_ ?_ ?_ ?_ ?_ ?_<;>intro hr
 ·have q:=roomN_I hr; obtain ⟨X,a,b,c,d⟩:=chgN_I hB v; exact ⟨X,a,b,c,immB_I a q.1 q.2.1 q.2.2 d⟩
 ·have q:=roomN_H hr; obtain ⟨X,a,b,c,d⟩:=chgN_H hB v; exact ⟨X,a,b,c,immB_H a q.1 q.2.1 q.2.2 d⟩
 ·have q:=roomN_S hr; obtain ⟨X,a,b,c,d,e⟩:=chgN_S hB v; exact ⟨X,a,b,c,immB_S a q.1 q.2.1 q.2.2 d e⟩
 ·have q:=roomN_B hr; obtain ⟨X,a,b,c,d,e,f,g⟩:=chgN_B hB v; exact ⟨X,a,b,c,immB_B a q.1 q.2.1 q.2.2 d e f g⟩
 ·have q:=roomN_U hr; obtain ⟨X,a,b,c,d⟩:=chgN_U hB v; exact ⟨X,a,b,c,immB_U a q.1 q.2.1 q.2.2 d⟩
 ·have q:=roomN_J hr; obtain ⟨X,a,b,c,d,e,f,g⟩:=chgN_J hB v; exact ⟨X,a,b,c,immB_J a q.1 q.2.1 q.2.2 d e f g⟩
 ·have q:=roomN_F hr; obtain ⟨X,a,b,c,d⟩:=chgN_F hB v; exact ⟨X,a,b,c,immB_F a q.1 q.2.1 q.2.2 d⟩
theorem chgOk {B:Nat} (hB:B<4294967296) {v:Int} {f:Str} (hf:f∈immForms) (hr:hrF f v=true):∃ X:Nat,X<4294967296∧okI (chgR f (B:Int) v)∧valI (chgR f (B:Int) v)=(X:Int)∧(X:Int)=(B:Int) - Builtin.bitAnd (B:Int) (maskF f)+((wordN f 0 0 0 0 0 0 v:Nat):Int)∧immV f (X:Int)=v:=by
 obtain ⟨X,a,b,c,d⟩:=chgG hB f hf hr
 have k:=okI_sym (x:=chgR f (B:Int) v) (i:=(X:Int)) (by
  show HX (withX [.sym (B:Int),.str f,.sym v]) _ False
  rw [with_f (B:Int) v f hf]
  refine hx_bind (hx_mono (bitsG f hf hr) fun av e=>?_)
  rw [e]
  refine hx_ret ?_
  show AV.sym _=AV.sym _
  rw [← b])
 exact ⟨X,a,k.1,k.2,c,d⟩
theorem eqFL_of {a:Str→Int} {o:Str→AV}:∀ {ks:List Str},(∀ k∈ks,∃ s,intOf (o k)=some (a k,s))→eqFL (ks.map fun k=>.sym (a k)) (ks.map o)=some true
 | [],_=>rfl
 | k :: ks,h=>by
  have ih:=eqFL_of (ks:=ks) fun k' h'=>h k' (by simp [h'])
  obtain ⟨s,e⟩:=h k (by simp)
  have e1:eqF (und (.sym (a k))) (und (o k))=some true:=by
   cases q:o k<;>rw [q] at e<;>simp only [intOf,Option.some.injEq,Prod.mk.injEq,reduceCtorEq] at e
   ·show some (a k==_)=_; rw [e.1,beq_self_eq_true]
   ·show some (a k==_)=_; rw [e.1,beq_self_eq_true]
  show (match eqF (und (.sym (a k))) (und (o k)),eqFL (ks.map fun k=>.sym (a k)) (ks.map o) with | some b,some c=>some (b&&c) | _,_=>none)=_
  rw [e1,ih]; rfl
theorem dec_eq {n f:Str} {x y z:Nat} (Rw:RowOk n f x y z) {W:Nat} (hW:W &&& mkN f=baseN f x y z) {o:Str→AV} (ho:∀ k∈keysF f,∃ s,intOf (o k)=some (fieldV f (W:Int) k,s)) :
  eqN (und (decV (W:Int) rowsF)) (und (.tup [.str n,.dS (keysF f) ((keysF f).map o)]))=some true:=by
 have hit:hitR W (mkN f,baseN f x y z,n,f)=true:=decide_eq_true hW
 rw [decV_hit (W:=W) (r:=(mkN f,baseN f x y z,n,f)) (fun r' h' e=>hit_uniq h' Rw.row e hit) Rw.row hit]
 have hn:=rowsF_nodup _ Rw.row
 show eqGL [.str n,.dS (keysF f) ((keysF f).map fun k=>.sym (fieldV f (W:Int) k))] [.str n,.dS (keysF f) ((keysF f).map o)]=_
 have e1:eqG (.str n) (.str n)=some true:=by
  show some (n==n)=_
  rw [beq_self_eq_true]
 have e2:eqG (.dS (keysF f) ((keysF f).map fun k=>.sym (fieldV f (W:Int) k))) (.dS (keysF f) ((keysF f).map o))=some true:=by
  show (match decide (keysF f=keysF f∧(keysF f).Nodup) with | true=>eqFL ((keysF f).map fun k=>.sym (fieldV f (W:Int) k)) ((keysF f).map o) | false=>none)=_
  rw [decide_eq_true ⟨rfl,hn⟩]
  exact eqFL_of ho
 show (match eqG (.str n) (.str n),(match eqG (.dS (keysF f) ((keysF f).map fun k=>.sym (fieldV f (W:Int) k))) (.dS (keysF f) ((keysF f).map o)),eqGL [] [] with | some b,some c=>some (b&&c) | _,_=>none) with | some b,some c=>some (b&&c) | _,_=>none)=_
 rw [e1,e2]; rfl
end
end Mine
end
section
open PySem.SeqAt MineH
namespace Mine
section
variable {prog:Program} {w:World} {h:Heap}
def upd (g:Str→Int) (e:Int):Str→Int:=fun k=>match k==("imm" : Str) with | true=>e | false=>g k
theorem upd_imm (g:Str→Int) (e:Int):upd g e "imm" = e:=by kernel_rfl
theorem upd_reg {g:Str→Int} {e:Int} {d s t:Nat} (r:RegOk g d s t):RegOk (upd g e) d s t:=
 ⟨(show upd g e "rd" = g "rd" by kernel_rfl).trans r.hd,(show upd g e "rs1" = g "rs1" by kernel_rfl).trans r.hs,(show upd g e "rs2" = g "rs2" by kernel_rfl).trans r.ht,r.ld,r.ls,r.lt⟩
theorem withA_sy {f:Str} {g:Str→Int} {e:Int} {ev:AV} (he:syV ev=.sym e):sy (withA f g ev)=fieldsA f (upd g e):=by
 unfold withA fieldsA upd
 show AV.dS (keysF f) (List.map syV (List.map _ (keysF f)))=_
 rw [List.map_map]
 congr 1
 refine List.map_congr_left fun k _=>?_
 show syV (match k==("imm" : Str) with | true=>ev | false=>.sym (g k))=_
 cases k==("imm" : Str) with
 | true=>exact he
 | false=>rfl
theorem withA_val {g:Str→Int} {e:Int} {ev:AV} (he:∃ s,intOf ev=some (e,s)) (k:Str):∃ s,intOf (match k==("imm" : Str) with | true=>ev | false=>.sym (g k))=some (upd g e k,s):=by
 unfold upd
 cases k==("imm" : Str) with
 | true=>exact he
 | false=>exact ⟨true,rfl⟩
theorem dropA_sy (f:Str) (g:Str→Int) (key:Str):sy (dropA f g key)=dropA f g key:=by
 unfold dropA
 show AV.dS _ (List.map syV (List.map _ _))=_
 rw [List.map_map]
 rfl
structure EdgeF (n f:Str) (o ev:AV) (hr:Bool):Prop where
 fit:okB (fitR n ev)∧valB (fitR n ev)=hr
 ref:okB (refR n o)∧valB (refR n o)=!hr
 enc:hr=true→okI (encR n o)∧(0≤valI (encR n o)∧valI (encR n o)<4294967296)∧decP (valI (encR n o)) n o∧decB (valI (encR n o)) n o=false
theorem edge_facts {n f:Str} {x y z d s t:Nat} (hf:f∈immForms) (Rw:RowOk n f x y z) {g:Str→Int} (r:RegOk g d s t) {e:Int} {ev:AV} (he:syV ev=.sym e) (hi:∃ s,intOf ev=some (e,s)) (hs:sy ev=.sym e):EdgeF n f (withA f g ev) ev (hrF f e):=by
 have r':=upd_reg (e:=e) r
 have ws:=withA_sy (f:=f) (g:=g) he
 have eR:refR n (withA f g ev)=refX [.str n,fieldsA f (upd g e)]:=by
  show refX [sy (.str n),sy (withA f g ev)]=_
  rw [ws]; rfl
 have eE:encR n (withA f g ev)=encN [.str n,fieldsA f (upd g e)]:=by
  show encN [sy (.str n),sy (withA f g ev)]=_
  rw [ws]; rfl
 have eF:fitR n ev=fitsX [.str n,.sym e]:=by
  show fitsX [sy (.str n),sy ev]=_
  rw [hs]; rfl
 have im':upd g e "imm" = e:=upd_imm g e
 refine ⟨?_,?_,fun hr=>?_⟩
 ·rw [eF]; exact fits_ok hf Rw.look e
 ·rw [eR]
  cases q:hrF f e with
  | true=>exact ref_val (hx_mono (encOkI (g:=upd g e) r' f hf Rw (by rw [im']; exact q)) fun _ _=>trivial)
  | false=>exact ref_exc (encFI (g:=upd g e) r' f hf Rw (by rw [im']; exact q))
 ·rw [eE]
  have q:hrF f (upd g e "imm")=true:=by rw [im']; exact hr
  obtain ⟨k1,k2⟩:=enc_val (encOkI (g:=upd g e) r' f hf Rw q)
  have hh:wordG f x y z d s t (upd g e) &&& mkN f=baseN f x y z∧wordG f x y z d s t (upd g e)<4294967296:=hitG (x:=x) (y:=y) (z:=z) (upd g e "imm") r'.ld r'.ls r'.lt f (imm_forms f hf) Rw.xyz
  have bk:=backsI (g:=upd g e) r' f hf Rw.xyz q
  have dq:eqN (und (decV ((wordG f x y z d s t (upd g e):Nat):Int) rowsF)) (und (.tup [.str n,withA f g ev]))=some true:=dec_eq (o:=fun k=>match k==("imm" : Str) with | true=>ev | false=>.sym (g k)) Rw hh.1 (fun k hk=>by
   rw [bk k hk]; exact withA_val hi k)
  refine ⟨k1,?_,?_,?_⟩
  ·rw [k2]; have:=hh.2; omega
  ·rw [k2]; unfold decP; rw [dq]; rfl
  ·rw [k2]; unfold decB; rw [dq]; rfl
theorem edgeT_hx {n f:Str} {o ev:AV} {hr:Bool} (F:EdgeF n f o ev hr) {env:AEnv} {sl:SL} {P:Fl×AEnv×SL→Prop} (hP:P (.nxt,env,sl)):HX (edgeT n o ev hr env sl) P False:=by
 refine hx_need F.fit.1 (hx_need rfl (hx_need (fun _=>⟨F.ref.1,rfl,trivial⟩) (hx_ite (fun e=>?_) fun _=>?_)))
 ·rw [F.fit.2,F.ref.2,beq_self_eq_true] at e
  cases hr<;>cases e
 ·cases hr with
  | false=>exact hx_ret hP
  | true=>
   obtain ⟨e1,e2,e3,e4⟩:=F.enc rfl
   refine hx_need e1 (hx_need e2 (hx_need e3 (hx_ite (fun e=>?_) fun _=>hx_ret hP)))
   rw [e4] at e; cases e
theorem edgeU_hx {n f:Str} {o ev:AV} {hr:Bool} (F:EdgeF n f o ev hr) {env:AEnv} {sl:SL} {P:Fl×AEnv×SL→Prop} (hP:P (.nxt,env,sl)):HX (edgeU n o ev hr env sl) P False:=by
 refine hx_need F.fit.1 (hx_need rfl (hx_need (fun _=>⟨F.ref.1,rfl,trivial⟩) (hx_ite (fun e=>?_) fun _=>hx_need (fun q=>?_) (hx_ite (fun e=>?_) fun _=>hx_ret hP))))
 ·rw [F.fit.2,F.ref.2,beq_self_eq_true] at e
  cases hr<;>cases e
 ·obtain ⟨e1,e2,e3,e4⟩:=F.enc q
  exact ⟨e1,e2,e3,trivial⟩
 ·cases hr with
  | false=>cases e
  | true=>rw [(F.enc rfl).2.2.2] at e; cases e
theorem edge_room:∀ f∈immForms,∀ p∈edgesF f++edges2 f,hrF f p.1=p.2:=by
 refine by7 ?_ ?_ ?_ ?_ ?_ ?_ ?_
 ·rw [el_I.1,el_I.2]; decide +kernel
 ·rw [el_H.1,el_H.2]; decide +kernel
 ·rw [el_S.1,el_S.2]; decide +kernel
 ·rw [el_B.1,el_B.2]; decide +kernel
 ·rw [el_U.1,el_U.2]; decide +kernel
 ·rw [el_J.1,el_J.2]; decide +kernel
 ·rw [el_F.1,el_F.2]; decide +kernel
theorem items_pure (r:Int):∀ f∈immForms,pureA (.lst (itemsE f r))=true:=
 by7 (by kernel_rfl) (by kernel_rfl) (by kernel_rfl) (by kernel_rfl) (by kernel_rfl) (by kernel_rfl) (by kernel_rfl)
def endW (p:Fl×AEnv×SL):R (List AV×AV):=match p with
 | (.ret v,_,sl)=>(frzE sl v).bind fun q=>match (q.1.getD sl)[0]? with
  | some (Slot.own (.lst l))=>(match pureL l with | true=>.ret (l,q.2) | false=>.fail)
  | _=>.fail
 | (.nxt,_,_)=>.fail
theorem runW_of {C:Ctx} {d n:Nat} {sc:Scope} {body:List Stmt} {x:Str} {xs:List Str} {items args:List AV} {P:List AV×AV→Prop} (hz:(Nat.beq args.length xs.length&&pureL items)=true)
  (h:HX (evalS C d sc n ((x,.loc 0) :: xs.zip args) body [.own (.lst items)]) (fun p=>HX (endW p) P False) False):HX (specW C d n sc body x xs items args) P False:=by
 unfold specW
 rw [hz]
 exact hx_bind h
theorem endW_ret {env:AEnv} {items:List AV} {v:AV} {P:List AV×AV→Prop} (hv:pureA v=true) (hi:pureL items=true) (hp:P (items,v)):HX (endW (.ret v,env,[.own (.lst items)])) P False:=by
 show HX ((frzE [.own (.lst items)] v).bind _) P False
 unfold frzE
 rw [hv]
 show HX (match pureL items with | true=>R.ret (items,v) | false=>.fail) P False
 rw [hi]
 exact hx_ret hp
theorem next_of {C:Ctx} {d n:Nat} {sc:Scope} {env:AEnv} {r:List Stmt} {sl:SL} {P:Fl×AEnv×SL→Prop} {X:Prop} (h:HX (evalS C d sc n env r sl) P X):HX (nextS C d n sc r (.nxt,env,sl)) P X:=h
theorem after_of {sc:Scope} {body:AEnv→SL→RS} {t:Expr} {l:List AV} {env:AEnv} {sl:SL} {P:Fl×AEnv×SL→Prop} {X:Prop} (h:HX (loopS sc body t l env sl) P X):HX (afterT sc body t l (.nxt,env,sl)) P X:=h
def restE (f:Str) (r:Int):List AV:=([(leastF f,true),(endFo f - 1,paceF f==1),(endFo f,false)]:List (Int×Bool)).map (fun p=>.num p.1)++[.sym r]++(edges2 f).map (fun p=>.num p.1)
theorem mem_restE {f:Str} {r:Int} {a:AV} (h:a∈restE f r):a=.sym r∨∃ p∈edgesF f++edges2 f,a=.num p.1:=by
 unfold restE at h
 rcases List.mem_append.mp h with h | h
 ·rcases List.mem_append.mp h with h | h
  ·obtain ⟨p,hp,e⟩:=List.mem_map.mp h
   refine .inr ⟨p,List.mem_append_left _ ?_,e.symm⟩
   unfold edgesF
   exact List.mem_cons_of_mem _ hp
  ·exact .inl (by simpa using h)
 ·obtain ⟨p,hp,e⟩:=List.mem_map.mp h
  exact .inr ⟨p,List.mem_append_right _ hp,e.symm⟩
abbrev num45 (n f:Str) (g:Str→Int) (l:List Int) (a s:Int):R (List AV×AV):=specW c31 3 60 (scopeAt 45) (bodyAt 45) "well" ["name","form","drawing","fields"] (wellI l a s) [.str n,.str f,drF f,fieldsA f g]
theorem drawP1 {l:List Int} {a s:Int} (h:0≤a∧a<1000∧l.length<1000∧0≤s∧s<2147483648):drawP l a s [Mx]:=⟨h,.inl rfl,fun n hn=>by
 simp only [List.mem_cons,List.not_mem_nil,or_false] at hn
 subst hn; decide⟩
theorem drawS_lt (l:List Int) (a s:Int) (h:0≤s∧s<2147483648):0≤drawS l a s∧drawS l a s<2147483648:=by
 unfold drawS drawN
 cases decide (a<(l.length:Int)) with
 | true=>exact h
 | false=>
  show 0≤Int.fmod _ _∧Int.fmod _ _<_
  rw [Int.fmod_eq_emod_of_nonneg _ (by decide)]
  omega
theorem num_holds {n f:Str} {x y z d s t:Nat} (hf:f∈immForms) (Rw:RowOk n f x y z) {g:Str→Int} (r:RegOk g d s t) (hr:hrF f (g "imm")=true) {l:List Int} {a j:Int} (h1:0≤a∧a<999) (h2:l.length<1000) (h3:0≤j∧j<2147483648) :
  HX (num45 n f g l a j) (fun p=>p=(wellI l (a+1+1) (drawS l (a+1) (drawS l a j)),.sb true)) False:=by
 have j2:=drawS_lt l a j h3
 refine runW_of (by kernel_rfl) ?_
 show HX (evalS c31 3 (scopeAt 45) 60 (E0 n f g) (bodyAt 45) (wellS l a j)) _ False
 rw [body45]
 refine cons_of (hx_eq (s45_0 n f g l a j) (hx_need (drawP1 ⟨h1.1,by omega,h2,h3⟩) (hx_need (drawP1 ⟨by omega,by omega,h2,j2⟩) (hx_ret (next_of ?_)))))
 generalize hc:(drawV l a j).fmod Mx=c
 generalize hq:(drawV l (a+1) (drawS l a j)).fmod Mx=q
 have hc':0≤c∧c<2147483647:=by
  rw [← hc,Int.fmod_eq_emod_of_nonneg _ (by decide)]; exact ⟨Int.emod_nonneg _ (by decide),Int.emod_lt_of_pos _ (by decide)⟩
 generalize hS:wellS l (a+1+1) (drawS l (a+1) (drawS l a j))=S
 refine cons_of (hx_eq (s45_1 n g c q S f hf) (hx_need (by omega) (hx_ret (next_of ?_))))
 have hb:0≤c*2+q.fmod 2∧c*2+q.fmod 2<4294967296:=by
  rw [Int.fmod_eq_emod_of_nonneg _ (by decide)]; omega
 generalize c*2+q.fmod 2=b at *
 obtain ⟨B,rfl⟩:=Int.eq_ofNat_of_zero_le hb.1
 have hB:B<4294967296:=by omega
 refine cons_of (hx_eq (s45_2 n g c q B S f hf) (hx_ret (next_of ?_)))
 have du:=dueOk (g "imm") f hf
 refine cons_of (hx_eq (s45_3 n g c q B S f hf) (hx_need du.1 (hx_ret (next_of ?_))))
 rw [du.2]
 generalize hU:wordN f 0 0 0 0 0 0 (g "imm")=U at *
 obtain ⟨X,x1,x2,x3,x4,x5⟩:=chgOk hB hf hr
 refine cons_of (hx_eq (s45_4 n g c q B U S f hf) (hx_need x2 (hx_ret (next_of ?_))))
 rw [x3]
 have bk:=bitOk hf hr
 rw [hU] at bk x4
 refine cons_of (hx_eq (s45_5 n g c q B U X S f hf) (hx_need bk.1 (hx_need rfl (hx_need (fun _=>⟨rfl,trivial⟩) (hx_ite (fun e=>?_) fun _=>hx_ret (next_of ?_))))))
 ·rw [bk.2,beq_self_eq_true,x4,beq_self_eq_true] at e; cases e
 have fv:∀ v:Int,fieldV f v "imm" = immV f v:=fun v=>rfl
 refine cons_of (hx_eq (s45_6 n g c q B U X S f hf) (hx_need (by omega) (hx_need rfl (hx_need (fun _=>⟨hb,rfl,hb,rfl,trivial⟩) (hx_ite (fun e=>?_) fun _=>hx_ret (next_of ?_))))))
 ·rw [x5,fv,beq_self_eq_true,beq_self_eq_true] at e; cases e
 refine cons_of (hx_eq (s45_7 n g c q B U X S f hf) (hx_ret (next_of ?_)))
 refine cons_of (hx_eq (s45_8 n g c q B U X S f hf) (hx_ret (next_of ?_)))
 refine cons_of (hx_eq (s45_9 n g c q B U X S f hf) (hx_ret (next_of ?_)))
 refine cons_of (for_of (v:=.lst (itemsE f q)) (items:=.num (leastF f - 1) :: restE f q) (by kernel_rfl) (iter45 n g c q B U X S f hf) (items_pure q f hf) rfl ?_)
 have ed:=edges n g c q B U X S f hf
 have rm:=edge_room f hf
 have m0:((leastF f - 1,false):Int×Bool)∈edgesF f++edges2 f:=by unfold edgesF; simp
 have num:∀ p∈edgesF f++edges2 f,EdgeF n f (withA f g (.num p.1)) (.num p.1) p.2:=fun p hp=>by
  rw [← rm p hp]
  exact edge_facts hf Rw r rfl ⟨false,rfl⟩ rfl
 refine turn_of (bind45 n f g c q B U X _) (hx_eq ((allE_mem ed _ m0).1) (edgeT_hx (num _ m0) (after_of ?_)))
 refine loop_of (I:=fun env sl=>sl=S∧∃ o h e,env=ET n f g c q B U X o h e) (fun x' hx' env sl hi=>?_) (fun env sl hi=>?_) ⟨rfl,_,_,_,rfl⟩
 ·obtain ⟨hs,o,h,e,he⟩:=hi
  subst hs he
  refine ⟨_,bind45' n f g c q B U X o h x' e,?_⟩
  rcases mem_restE hx' with hz | ⟨p,hp,hz⟩
  ·subst hz
   refine hx_eq (fars n g c q B U X sl f hf o h) (hx_need (fun _=>trivial) (hx_need (fun _=>⟨rfl,trivial⟩) (edgeU_hx (edge_facts hf Rw r rfl ⟨true,rfl⟩ rfl) ⟨rfl,_,_,_,rfl⟩)))
  ·subst hz
   exact hx_eq ((allE_mem ed p hp).2 o h) (edgeT_hx (num p hp) ⟨rfl,_,_,_,rfl⟩)
 ·obtain ⟨hs,o,h,e,he⟩:=hi
  subst hs he
  have dr:=ref_exc (encDI r f hf Rw)
  have dq:refR n (dropA f g "imm")=refX [.str n,dropA f g "imm"]:=by
   show refX [sy (.str n),sy (dropA f g "imm")]=_
   rw [dropA_sy]; rfl
  refine next_of (hx_eq (s45_11 n g c q B U X o h e sl f hf) (hx_need (by rw [dq]; exact dr.1) (hx_ret ?_)))
  rw [dq,dr.2,← hS]
  exact endW_ret rfl rfl rfl
end
end Mine
end
section
open PySem.SeqAt MineH
namespace Mine
section
variable {prog:Program} {w:World} {h:Heap}
def NumP (l:List Int) (a j:Int) (n f:Str) (dr fl:AV):Prop:=∃ x y z d s t g,f∈immForms∧RowOk n f x y z∧RegOk g d s t∧hrF f (g "imm")=true∧dr=drF f∧fl=fieldsA f g∧(0≤a∧a<999)∧l.length<1000∧(0≤j∧j<2147483648)
def numS:List AV→List AV→R (List AV×AV):=fun items args=>match items,args with
 | [.ints l,.sym a,.sym j],[.str n,.str f,dr,fl]=>.need (NumP l a j n f dr fl) (.ret (wellI l (a+1+1) (drawS l (a+1) (drawS l a j)),.sb true))
 | _,_=>.fail
theorem numS_noexc (x l:List AV):NoExc (numS x l):=by
 unfold numS
 split<;>trivial
theorem num_weak (items args:List AV) (P:List AV×AV→Prop) (hh:(numS items args).Holds P False):(specW c31 3 60 (scopeAt 45) (bodyAt 45) "well" ["name","form","drawing","fields"] items args).Holds P False:=by
 unfold numS at hh
 split at hh
 ·rename_i l a j n f dr fl
  have hq:NumP l a j n f dr fl∧P (wellI l (a+1+1) (drawS l (a+1) (drawS l a j)),.sb true):=hh
  obtain ⟨x,y,z,d,s,t,g,hf,Rw,r,hr,e1,e2,h1,h2,h3⟩:=hq.1
  rw [e1,e2]
  exact (hx_mono (num_holds hf Rw r hr h1 h2 h3) fun p e=>by rw [e]; exact hq.2).out
 ·exact hh.elim
def c32:Ctx:={ c31 with wfuns:=("_law_is_number_right",⟨3,numS⟩) :: c31.wfuns }
theorem gok32 (X:(Kx w.params).In h) (lim:h.NoLimit):GOK prog w c32 h:=gok_addW (gok31 X lim) (gm_of X (by kernel_rfl)) ⟨o645 w.params,_,X 645 _ (by kernel_rfl),rfl⟩ ((runW_ok (d45 X lim) (gok31 X lim) rfl 60).weaken num_weak) numS_noexc
abbrev RowX:=Str×Str×Nat×Nat×Nat
def rowsOfL (f:Str):List RowX:=rowsX.filter fun r=>r.2.1==f
def xyzA (x y z:Int):AV:=.dS ["x","y","z"] [.num x,.num y,.num z]
def rowV (r:RowX):AV:=.tup [.str r.1,.str r.2.1,xyzA (r.2.2.1:Nat) (r.2.2.2.1:Nat) (r.2.2.2.2:Nat)]
def rowsL (f:Str):AV:=.lst ((rowsOfL f).map rowV)
def lenR (f:Str):Int:=((rowsOfL f).length:Nat)
def countF (f:Str):Int:=match memS f immForms with | true=>(match f==("U" : Str)||f==("J" : Str) with | true=>20 | false=>match f==("H" : Str) with | true=>5 | false=>match f==("F" : Str) with | true=>8 | false=>12) | false=>0
def paceG (f:Str):Int:=match f==("B" : Str)||f==("J" : Str) with | true=>2 | false=>1
def F0 (f:Str):AEnv:=[("well",.loc 0),("form",.str f),("drawing",drF f),("rows",rowsL f)]
def F1 (f:Str) (u0 u1 u2 u3:Int):AEnv:=("two",.sym u3) :: ("one",.sym u2) :: ("rd",.sym u1) :: ("which",.sym u0) :: F0 f
def F1b (f:Str) (u0 u1 u2 u3 v:Int):AEnv:=("value",.sym v) :: F1 f u0 u1 u2 u3
def FB (f:Str) (u0 u1 u2 u3:Int):AEnv:=[("two",.sym u3),("one",.sym u2),("rd",.sym u1),("which",.sym u0),("well",.loc 0),("drawing",drF f),("rows",rowsL f)]
def F2 (n f:Str) (x y z u0 u1 u2 u3 v:Int):AEnv:=("fixed",xyzA x y z) :: ("form",.str f) :: ("name",.str n) :: ("value",.sym v) :: FB f u0 u1 u2 u3
def F3 (n f:Str) (x y z u0 u1 u2 u3 v:Int):AEnv:=("pace",.num (paceG f)) :: ("count",.num (countF f)) :: F2 n f x y z u0 u1 u2 u3 v
def F4 (n f:Str) (x y z u0 u1 u2 u3 v:Int):AEnv:=("value",.sym v) :: ("pace",.num (paceG f)) :: ("count",.num (countF f)) :: ("fixed",xyzA x y z) :: ("form",.str f) :: ("name",.str n) :: FB f u0 u1 u2 u3
abbrev step46 (k i:Nat) (env:AEnv) (sl:SL):RS:=stepS c32 4 k (scopeAt 46) (evalS c32 4 (scopeAt 46) k) env (stAt (bodyAt 46) i) sl
def m0 (l:List Int) (a s:Int) (f:Str):Int:=drawV l a s
theorem s46_0 (l:List Int) (a s:Int):∀ f∈formsL,step46 59 0 (F0 f) (wellS l a s)=.need (drawP l a s [lenR f,32,32,32])
  (.ret (.nxt,F1 f ((drawV l a s).fmod (lenR f)) (((drawV l a s).fdiv (lenR f)).fmod 32) ((((drawV l a s).fdiv (lenR f)).fdiv 32).fmod 32) (((((drawV l a s).fdiv (lenR f)).fdiv 32).fdiv 32).fmod 32),wellS l (a+1) (drawS l a s))):=
 by9 (by kernel_rfl) (by kernel_rfl) (by kernel_rfl) (by kernel_rfl) (by kernel_rfl) (by kernel_rfl) (by kernel_rfl) (by kernel_rfl) (by kernel_rfl)
theorem s46_1 (f:Str) (u0 u1 u2 u3:Int) (l:List Int) (a s:Int):step46 58 1 (F1 f u0 u1 u2 u3) (wellS l a s)=.need (drawP l a s [Mx]) (.ret (.nxt,F1b f u0 u1 u2 u3 ((drawV l a s).fmod Mx),wellS l (a+1) (drawS l a s))):=by kernel_rfl
def whichT (wh:Int) (K:RowX→RS):Nat→List RowX→RS
 | _,[]=>.fail
 | k,r :: l=>.ite (decide (wh=k)) (K r) (whichT wh K (k+1) l)
theorem s46_2 (u0 u1 u2 u3 v:Int) (sl:SL):∀ f∈formsL,step46 57 2 (F1b f u0 u1 u2 u3 v) sl=whichT u0 (fun r=>.ret (.nxt,F2 r.1 f (r.2.2.1:Nat) (r.2.2.2.1:Nat) (r.2.2.2.2:Nat) u0 u1 u2 u3 v,sl)) 0 (rowsOfL f):=
 by9 (by kernel_rfl) (by kernel_rfl) (by kernel_rfl) (by kernel_rfl) (by kernel_rfl) (by kernel_rfl) (by kernel_rfl) (by kernel_rfl) (by kernel_rfl)
theorem s46_3 (n:Str) (x y z u0 u1 u2 u3 v:Int) (sl:SL):∀ f∈formsL,step46 56 3 (F2 n f x y z u0 u1 u2 u3 v) sl=.ret (.nxt,F3 n f x y z u0 u1 u2 u3 v,sl):=
 by9 (by kernel_rfl) (by kernel_rfl) (by kernel_rfl) (by kernel_rfl) (by kernel_rfl) (by kernel_rfl) (by kernel_rfl) (by kernel_rfl) (by kernel_rfl)
def powF (f:Str):Int:=1*2 ^ (countF f).toNat
theorem s46_4 (n:Str) (x y z u0 u1 u2 u3 v:Int) (sl:SL):∀ f∈formsL,step46 55 4 (F3 n f x y z u0 u1 u2 u3 v) sl=.need ((v.fmod (powF f)).natAbs<2 ^ 64) (.ret (.nxt,F4 n f x y z u0 u1 u2 u3 (v.fmod (powF f)*paceG f),sl)):=
 by9 (by kernel_rfl) (by kernel_rfl) (by kernel_rfl) (by kernel_rfl) (by kernel_rfl) (by kernel_rfl) (by kernel_rfl) (by kernel_rfl) (by kernel_rfl)
def halfF (f:Str) (v:Int):Int:=match memS f ["I","S","B","J"] with | true=>v - (paceG f*powF f).fdiv 2 | false=>v
theorem s46_5 (n:Str) (x y z u0 u1 u2 u3 v:Int) (sl:SL):∀ f∈formsL,step46 54 5 (F4 n f x y z u0 u1 u2 u3 v) sl=.ret (.nxt,F4 n f x y z u0 u1 u2 u3 (halfF f v),sl):=
 by9 (by kernel_rfl) (by kernel_rfl) (by kernel_rfl) (by kernel_rfl) (by kernel_rfl) (by kernel_rfl) (by kernel_rfl) (by kernel_rfl) (by kernel_rfl)
def knownA (x y z d s t v:Int):AV:=.dS ["x","y","z","d","s","t","i"] [.num x,.num y,.num z,.sym d,.sym s,.sym t,.sym v]
def F6 (n f:Str) (x y z u0 u1 u2 u3 v:Int):AEnv:=("known",.loc 1) :: F4 n f x y z u0 u1 u2 u3 v
theorem s46_6 (n f:Str) (x y z u0 u1 u2 u3 v:Int) (W:List AV):step46 53 6 (F4 n f x y z u0 u1 u2 u3 v) [.own (.lst W)]=.ret (.nxt,F6 n f x y z u0 u1 u2 u3 v,[.own (.lst W),.own (knownA x y z u1 u2 u3 v)]):=by kernel_rfl
def gF (d s t v:Int):Str→Int:=fun k=>match k==("rd" : Str) with | true=>d | false=>match k==("rs1" : Str) with | true=>s | false=>match k==("rs2" : Str) with | true=>t | false=>v
def numR (f:Str) (x y z d s t v:Int):R AV:=laidX ([drF f,knownA x y z d s t v].map sy)
def F7 (n f:Str) (x y z u0 u1 u2 u3 v N:Int):AEnv:=("number",.sym N) :: ("fields",fieldsA f (gF u1 u2 u3 v)) :: F6 n f x y z u0 u1 u2 u3 v
def sl7 (W:List AV) (x y z d s t v:Int):SL:=[.own (.lst W),.frz (knownA x y z d s t v)]
theorem s46_7 (n:Str) (x y z u0 u1 u2 u3 v:Int) (W:List AV):∀ f∈formsL,step46 52 7 (F6 n f x y z u0 u1 u2 u3 v) [.own (.lst W),.own (knownA x y z u1 u2 u3 v)] =
  .need (okI (numR f x y z u1 u2 u3 v)) (.ret (.nxt,F7 n f x y z u0 u1 u2 u3 v (valI (numR f x y z u1 u2 u3 v)),sl7 W x y z u1 u2 u3 v)):=
 by9 (by kernel_rfl) (by kernel_rfl) (by kernel_rfl) (by kernel_rfl) (by kernel_rfl) (by kernel_rfl) (by kernel_rfl) (by kernel_rfl) (by kernel_rfl)
theorem s46_8 (n:Str) (x y z u0 u1 u2 u3 v N:Int) (sl:SL):∀ f∈formsL,step46 51 8 (F7 n f x y z u0 u1 u2 u3 v N) sl =
  .need (okI (encR n (fieldsA f (gF u1 u2 u3 v)))) (.need (true=true) (.need ((!(valI (encR n (fieldsA f (gF u1 u2 u3 v)))==N))=false→(0≤N∧N<4294967296)∧decP N n (fieldsA f (gF u1 u2 u3 v))∧True)
   (.ite ((!(valI (encR n (fieldsA f (gF u1 u2 u3 v)))==N))||decB N n (fieldsA f (gF u1 u2 u3 v))) (retF (F7 n f x y z u0 u1 u2 u3 v N) sl) (.ret (.nxt,F7 n f x y z u0 u1 u2 u3 v N,sl))))):=
 by9 (by kernel_rfl) (by kernel_rfl) (by kernel_rfl) (by kernel_rfl) (by kernel_rfl) (by kernel_rfl) (by kernel_rfl) (by kernel_rfl) (by kernel_rfl)
end
end Mine
end
section
open PySem.SeqAt MineH
namespace Mine
section
variable {prog:Program} {w:World} {h:Heap}
def regsF (f:Str):List Str:=(keysF f).filter fun k=>!(k==("imm" : Str))
def wrongO (f:Str) (g:Str→Int) (key:Str) (i:Int):AV:=.dS ((keysF f).filter (fun k=>!(k==key))++[key]) (((keysF f).filter fun k=>!(k==key)).map (fun k=>.sym (g k))++[.num i])
def objW (f:Str) (g:Str→Int) (p:Str×AV):AV:=match p.2 with | .num i=>wrongO f g p.1 i | _=>dropA f g p.1
def illA:AV:=.lst [.none,.num 32,.num (-1)]
def wrongsL (f:Str):List (Str×AV):=match f==("R" : Str) with
 | true=>[("rd",.none),("rd",.num 32),("rd",.num (-1)),("rs1",.none),("rs1",.num 32),("rs1",.num (-1)),("rs2",.none),("rs2",.num 32),("rs2",.num (-1))]
 | false=>match memS f ["I","H"] with
  | true=>[("rd",.none),("rd",.num 32),("rd",.num (-1)),("rs1",.none),("rs1",.num 32),("rs1",.num (-1))]
  | false=>match memS f ["S","B"] with
   | true=>[("rs1",.none),("rs1",.num 32),("rs1",.num (-1)),("rs2",.none),("rs2",.num 32),("rs2",.num (-1))]
   | false=>match memS f ["U","J"] with
    | true=>[("rd",.none),("rd",.num 32),("rd",.num (-1))]
    | false=>[]
def F9 (f:Str) (B:AEnv):AEnv:=match f==("R" : Str) with
 | true=>("wrong",.num (-1)) :: ("ill",illA) :: ("key",.str "rs2") :: B
 | false=>match f==("F" : Str) with
  | true=>("ill",.lst []) :: ("key",.str "imm") :: B
  | false=>match f==("E" : Str) with
   | true=>B
   | false=>("ill",.lst []) :: ("key",.str "imm") :: ("wrong",.num (-1)) :: B
def refsT (n f:Str) (g:Str→Int) (B:AEnv) (sl:SL):List (Str×AV)→RS
 | []=>.ret (.nxt,F9 f B,sl)
 | p :: l=>.need (okB (refR n (objW f g p))) (.ite (!valB (refR n (objW f g p))) (retF (("wrong",p.2) :: ("ill",illA) :: ("key",.str p.1) :: B) sl) (refsT n f g B sl l))
theorem s46_9 (n:Str) (x y z u0 u1 u2 u3 v N:Int) (sl:SL):∀ f∈formsL,step46 50 9 (F7 n f x y z u0 u1 u2 u3 v N) sl=refsT n f (gF u1 u2 u3 v) (F7 n f x y z u0 u1 u2 u3 v N) sl (wrongsL f):=
 by9 (by kernel_rfl) (by kernel_rfl) (by kernel_rfl) (by kernel_rfl) (by kernel_rfl) (by kernel_rfl) (by kernel_rfl) (by kernel_rfl) (by kernel_rfl)
def sl8 (l:List Int) (a s:Int) (x y z d t q v:Int):SL:=sl7 (wellI l a s) x y z d t q v
theorem s46_10 (n:Str) (x y z u0 u1 u2 u3 v N:Int) (l:List Int) (a s:Int):∀ f∈immForms,evalS c32 4 (scopeAt 46) 50 (F9 f (F7 n f x y z u0 u1 u2 u3 v N)) [stAt (bodyAt 46) 10] (sl8 l a s x y z u1 u2 u3 v) =
  .need (NumP l a s n f (drF f) (fieldsA f (gF u1 u2 u3 v))) (.ret (.ret (.sb true),F9 f (F7 n f x y z u0 u1 u2 u3 v N),sl8 l (a+1+1) (drawS l (a+1) (drawS l a s)) x y z u1 u2 u3 v)):=
 by7 (by kernel_rfl) (by kernel_rfl) (by kernel_rfl) (by kernel_rfl) (by kernel_rfl) (by kernel_rfl) (by kernel_rfl)
theorem s46_10' (n:Str) (x y z u0 u1 u2 u3 v N:Int) (sl:SL):∀ f∈(["R","E"]:List Str),evalS c32 4 (scopeAt 46) 50 (F9 f (F7 n f x y z u0 u1 u2 u3 v N)) [stAt (bodyAt 46) 10] sl=.ret (.ret (.bool true),F9 f (F7 n f x y z u0 u1 u2 u3 v N),sl):=by
 intro f hf
 simp only [List.mem_cons,List.not_mem_nil,or_false] at hf
 rcases hf with q | q<;>rw [q]<;>kernel_rfl
theorem body46:bodyAt 46=[stAt (bodyAt 46) 0,stAt (bodyAt 46) 1,stAt (bodyAt 46) 2,stAt (bodyAt 46) 3,stAt (bodyAt 46) 4,stAt (bodyAt 46) 5,stAt (bodyAt 46) 6,stAt (bodyAt 46) 7,stAt (bodyAt 46) 8,stAt (bodyAt 46) 9,stAt (bodyAt 46) 10]:=by kernel_rfl
end
end Mine
end
section
open PySem.SeqAt MineH
namespace Mine
section
variable {prog:Program} {w:World} {h:Heap}
def updK (g:Str→Int) (key:Str) (i:Int):Str→Int:=fun k=>match k==key with | true=>i | false=>g k
theorem refW_R_rd {n:Str} {x y z:Nat} (Rw:RowOk n "R" x y z) (g:Str→Int) {i:Int} (hi:¬ (0≤i∧i<32)):okB (refR n (objW "R" g ("rd",.num i)))∧valB (refR n (objW "R" g ("rd",.num i)))=true:=by
 have e:refR n (objW "R" g ("rd",.num i))=refX [.str n,wrongA "R" (updK g "rd" i) "rd"]:=by kernel_rfl
 have q:updK g "rd" i "rd" = i:=by kernel_rfl
 rw [e]
 exact ref_exc (encW_R_rd_exc Rw _ (by rw [q]; exact hi))
theorem refD_R_rd {n:Str} {x y z:Nat} (Rw:RowOk n "R" x y z) (g:Str→Int):okB (refR n (objW "R" g ("rd",.none)))∧valB (refR n (objW "R" g ("rd",.none)))=true:=by
 have e:refR n (objW "R" g ("rd",.none))=refX [.str n,dropA "R" g "rd"]:=by kernel_rfl
 rw [e]
 exact ref_exc (encD_R_rd_exc Rw g)
theorem refW_R_rs1 {n:Str} {x y z:Nat} (Rw:RowOk n "R" x y z) (g:Str→Int) {i:Int} (hi:¬ (0≤i∧i<32)):okB (refR n (objW "R" g ("rs1",.num i)))∧valB (refR n (objW "R" g ("rs1",.num i)))=true:=by
 have e:refR n (objW "R" g ("rs1",.num i))=refX [.str n,wrongA "R" (updK g "rs1" i) "rs1"]:=by kernel_rfl
 have q:updK g "rs1" i "rs1" = i:=by kernel_rfl
 rw [e]
 exact ref_exc (encW_R_rs1_exc Rw _ (by rw [q]; exact hi))
theorem refD_R_rs1 {n:Str} {x y z:Nat} (Rw:RowOk n "R" x y z) (g:Str→Int):okB (refR n (objW "R" g ("rs1",.none)))∧valB (refR n (objW "R" g ("rs1",.none)))=true:=by
 have e:refR n (objW "R" g ("rs1",.none))=refX [.str n,dropA "R" g "rs1"]:=by kernel_rfl
 rw [e]
 exact ref_exc (encD_R_rs1_exc Rw g)
theorem refW_R_rs2 {n:Str} {x y z:Nat} (Rw:RowOk n "R" x y z) (g:Str→Int) {i:Int} (hi:¬ (0≤i∧i<32)):okB (refR n (objW "R" g ("rs2",.num i)))∧valB (refR n (objW "R" g ("rs2",.num i)))=true:=by
 have e:refR n (objW "R" g ("rs2",.num i))=refX [.str n,wrongA "R" (updK g "rs2" i) "rs2"]:=by kernel_rfl
 have q:updK g "rs2" i "rs2" = i:=by kernel_rfl
 rw [e]
 exact ref_exc (encW_R_rs2_exc Rw _ (by rw [q]; exact hi))
theorem refD_R_rs2 {n:Str} {x y z:Nat} (Rw:RowOk n "R" x y z) (g:Str→Int):okB (refR n (objW "R" g ("rs2",.none)))∧valB (refR n (objW "R" g ("rs2",.none)))=true:=by
 have e:refR n (objW "R" g ("rs2",.none))=refX [.str n,dropA "R" g "rs2"]:=by kernel_rfl
 rw [e]
 exact ref_exc (encD_R_rs2_exc Rw g)
theorem refs_R {n:Str} {x y z:Nat} (Rw:RowOk n "R" x y z) (g:Str→Int):∀ p∈wrongsL "R",okB (refR n (objW "R" g p))∧valB (refR n (objW "R" g p))=true:=by
 intro p hp
 rw [show wrongsL "R" = ([("rd",.none),("rd",.num 32),("rd",.num (-1)),("rs1",.none),("rs1",.num 32),("rs1",.num (-1)),("rs2",.none),("rs2",.num 32),("rs2",.num (-1))]:List (Str×AV)) by kernel_rfl] at hp
 simp only [List.mem_cons,List.not_mem_nil,or_false] at hp
 rcases hp with q | q | q | q | q | q | q | q | q<;>rw [q]
 ·exact refD_R_rd Rw g
 ·exact refW_R_rd Rw g (by decide)
 ·exact refW_R_rd Rw g (by decide)
 ·exact refD_R_rs1 Rw g
 ·exact refW_R_rs1 Rw g (by decide)
 ·exact refW_R_rs1 Rw g (by decide)
 ·exact refD_R_rs2 Rw g
 ·exact refW_R_rs2 Rw g (by decide)
 ·exact refW_R_rs2 Rw g (by decide)
theorem refW_I_rd {n:Str} {x y z:Nat} (Rw:RowOk n "I" x y z) (g:Str→Int) {i:Int} (hi:¬ (0≤i∧i<32)):okB (refR n (objW "I" g ("rd",.num i)))∧valB (refR n (objW "I" g ("rd",.num i)))=true:=by
 have e:refR n (objW "I" g ("rd",.num i))=refX [.str n,wrongA "I" (updK g "rd" i) "rd"]:=by kernel_rfl
 have q:updK g "rd" i "rd" = i:=by kernel_rfl
 rw [e]
 exact ref_exc (encW_I_rd_exc Rw _ (by rw [q]; exact hi))
theorem refD_I_rd {n:Str} {x y z:Nat} (Rw:RowOk n "I" x y z) (g:Str→Int):okB (refR n (objW "I" g ("rd",.none)))∧valB (refR n (objW "I" g ("rd",.none)))=true:=by
 have e:refR n (objW "I" g ("rd",.none))=refX [.str n,dropA "I" g "rd"]:=by kernel_rfl
 rw [e]
 exact ref_exc (encD_I_rd_exc Rw g)
theorem refW_I_rs1 {n:Str} {x y z:Nat} (Rw:RowOk n "I" x y z) (g:Str→Int) {i:Int} (hi:¬ (0≤i∧i<32)):okB (refR n (objW "I" g ("rs1",.num i)))∧valB (refR n (objW "I" g ("rs1",.num i)))=true:=by
 have e:refR n (objW "I" g ("rs1",.num i))=refX [.str n,wrongA "I" (updK g "rs1" i) "rs1"]:=by kernel_rfl
 have q:updK g "rs1" i "rs1" = i:=by kernel_rfl
 rw [e]
 exact ref_exc (encW_I_rs1_exc Rw _ (by rw [q]; exact hi))
theorem refD_I_rs1 {n:Str} {x y z:Nat} (Rw:RowOk n "I" x y z) (g:Str→Int):okB (refR n (objW "I" g ("rs1",.none)))∧valB (refR n (objW "I" g ("rs1",.none)))=true:=by
 have e:refR n (objW "I" g ("rs1",.none))=refX [.str n,dropA "I" g "rs1"]:=by kernel_rfl
 rw [e]
 exact ref_exc (encD_I_rs1_exc Rw g)
theorem refs_I {n:Str} {x y z:Nat} (Rw:RowOk n "I" x y z) (g:Str→Int):∀ p∈wrongsL "I",okB (refR n (objW "I" g p))∧valB (refR n (objW "I" g p))=true:=by
 intro p hp
 rw [show wrongsL "I" = ([("rd",.none),("rd",.num 32),("rd",.num (-1)),("rs1",.none),("rs1",.num 32),("rs1",.num (-1))]:List (Str×AV)) by kernel_rfl] at hp
 simp only [List.mem_cons,List.not_mem_nil,or_false] at hp
 rcases hp with q | q | q | q | q | q<;>rw [q]
 ·exact refD_I_rd Rw g
 ·exact refW_I_rd Rw g (by decide)
 ·exact refW_I_rd Rw g (by decide)
 ·exact refD_I_rs1 Rw g
 ·exact refW_I_rs1 Rw g (by decide)
 ·exact refW_I_rs1 Rw g (by decide)
theorem refW_H_rd {n:Str} {x y z:Nat} (Rw:RowOk n "H" x y z) (g:Str→Int) {i:Int} (hi:¬ (0≤i∧i<32)):okB (refR n (objW "H" g ("rd",.num i)))∧valB (refR n (objW "H" g ("rd",.num i)))=true:=by
 have e:refR n (objW "H" g ("rd",.num i))=refX [.str n,wrongA "H" (updK g "rd" i) "rd"]:=by kernel_rfl
 have q:updK g "rd" i "rd" = i:=by kernel_rfl
 rw [e]
 exact ref_exc (encW_H_rd_exc Rw _ (by rw [q]; exact hi))
theorem refD_H_rd {n:Str} {x y z:Nat} (Rw:RowOk n "H" x y z) (g:Str→Int):okB (refR n (objW "H" g ("rd",.none)))∧valB (refR n (objW "H" g ("rd",.none)))=true:=by
 have e:refR n (objW "H" g ("rd",.none))=refX [.str n,dropA "H" g "rd"]:=by kernel_rfl
 rw [e]
 exact ref_exc (encD_H_rd_exc Rw g)
theorem refW_H_rs1 {n:Str} {x y z:Nat} (Rw:RowOk n "H" x y z) (g:Str→Int) {i:Int} (hi:¬ (0≤i∧i<32)):okB (refR n (objW "H" g ("rs1",.num i)))∧valB (refR n (objW "H" g ("rs1",.num i)))=true:=by
 have e:refR n (objW "H" g ("rs1",.num i))=refX [.str n,wrongA "H" (updK g "rs1" i) "rs1"]:=by kernel_rfl
 have q:updK g "rs1" i "rs1" = i:=by kernel_rfl
 rw [e]
 exact ref_exc (encW_H_rs1_exc Rw _ (by rw [q]; exact hi))
theorem refD_H_rs1 {n:Str} {x y z:Nat} (Rw:RowOk n "H" x y z) (g:Str→Int):okB (refR n (objW "H" g ("rs1",.none)))∧valB (refR n (objW "H" g ("rs1",.none)))=true:=by
 have e:refR n (objW "H" g ("rs1",.none))=refX [.str n,dropA "H" g "rs1"]:=by kernel_rfl
 rw [e]
 exact ref_exc (encD_H_rs1_exc Rw g)
theorem refs_H {n:Str} {x y z:Nat} (Rw:RowOk n "H" x y z) (g:Str→Int):∀ p∈wrongsL "H",okB (refR n (objW "H" g p))∧valB (refR n (objW "H" g p))=true:=by
 intro p hp
 rw [show wrongsL "H" = ([("rd",.none),("rd",.num 32),("rd",.num (-1)),("rs1",.none),("rs1",.num 32),("rs1",.num (-1))]:List (Str×AV)) by kernel_rfl] at hp
 simp only [List.mem_cons,List.not_mem_nil,or_false] at hp
 rcases hp with q | q | q | q | q | q<;>rw [q]
 ·exact refD_H_rd Rw g
 ·exact refW_H_rd Rw g (by decide)
 ·exact refW_H_rd Rw g (by decide)
 ·exact refD_H_rs1 Rw g
 ·exact refW_H_rs1 Rw g (by decide)
 ·exact refW_H_rs1 Rw g (by decide)
theorem refW_S_rs1 {n:Str} {x y z:Nat} (Rw:RowOk n "S" x y z) (g:Str→Int) {i:Int} (hi:¬ (0≤i∧i<32)):okB (refR n (objW "S" g ("rs1",.num i)))∧valB (refR n (objW "S" g ("rs1",.num i)))=true:=by
 have e:refR n (objW "S" g ("rs1",.num i))=refX [.str n,wrongA "S" (updK g "rs1" i) "rs1"]:=by kernel_rfl
 have q:updK g "rs1" i "rs1" = i:=by kernel_rfl
 rw [e]
 exact ref_exc (encW_S_rs1_exc Rw _ (by rw [q]; exact hi))
theorem refD_S_rs1 {n:Str} {x y z:Nat} (Rw:RowOk n "S" x y z) (g:Str→Int):okB (refR n (objW "S" g ("rs1",.none)))∧valB (refR n (objW "S" g ("rs1",.none)))=true:=by
 have e:refR n (objW "S" g ("rs1",.none))=refX [.str n,dropA "S" g "rs1"]:=by kernel_rfl
 rw [e]
 exact ref_exc (encD_S_rs1_exc Rw g)
theorem refW_S_rs2 {n:Str} {x y z:Nat} (Rw:RowOk n "S" x y z) (g:Str→Int) {i:Int} (hi:¬ (0≤i∧i<32)):okB (refR n (objW "S" g ("rs2",.num i)))∧valB (refR n (objW "S" g ("rs2",.num i)))=true:=by
 have e:refR n (objW "S" g ("rs2",.num i))=refX [.str n,wrongA "S" (updK g "rs2" i) "rs2"]:=by kernel_rfl
 have q:updK g "rs2" i "rs2" = i:=by kernel_rfl
 rw [e]
 exact ref_exc (encW_S_rs2_exc Rw _ (by rw [q]; exact hi))
theorem refD_S_rs2 {n:Str} {x y z:Nat} (Rw:RowOk n "S" x y z) (g:Str→Int):okB (refR n (objW "S" g ("rs2",.none)))∧valB (refR n (objW "S" g ("rs2",.none)))=true:=by
 have e:refR n (objW "S" g ("rs2",.none))=refX [.str n,dropA "S" g "rs2"]:=by kernel_rfl
 rw [e]
 exact ref_exc (encD_S_rs2_exc Rw g)
theorem refs_S {n:Str} {x y z:Nat} (Rw:RowOk n "S" x y z) (g:Str→Int):∀ p∈wrongsL "S",okB (refR n (objW "S" g p))∧valB (refR n (objW "S" g p))=true:=by
 intro p hp
 rw [show wrongsL "S" = ([("rs1",.none),("rs1",.num 32),("rs1",.num (-1)),("rs2",.none),("rs2",.num 32),("rs2",.num (-1))]:List (Str×AV)) by kernel_rfl] at hp
 simp only [List.mem_cons,List.not_mem_nil,or_false] at hp
 rcases hp with q | q | q | q | q | q<;>rw [q]
 ·exact refD_S_rs1 Rw g
 ·exact refW_S_rs1 Rw g (by decide)
 ·exact refW_S_rs1 Rw g (by decide)
 ·exact refD_S_rs2 Rw g
 ·exact refW_S_rs2 Rw g (by decide)
 ·exact refW_S_rs2 Rw g (by decide)
theorem refW_B_rs1 {n:Str} {x y z:Nat} (Rw:RowOk n "B" x y z) (g:Str→Int) {i:Int} (hi:¬ (0≤i∧i<32)):okB (refR n (objW "B" g ("rs1",.num i)))∧valB (refR n (objW "B" g ("rs1",.num i)))=true:=by
 have e:refR n (objW "B" g ("rs1",.num i))=refX [.str n,wrongA "B" (updK g "rs1" i) "rs1"]:=by kernel_rfl
 have q:updK g "rs1" i "rs1" = i:=by kernel_rfl
 rw [e]
 exact ref_exc (encW_B_rs1_exc Rw _ (by rw [q]; exact hi))
theorem refD_B_rs1 {n:Str} {x y z:Nat} (Rw:RowOk n "B" x y z) (g:Str→Int):okB (refR n (objW "B" g ("rs1",.none)))∧valB (refR n (objW "B" g ("rs1",.none)))=true:=by
 have e:refR n (objW "B" g ("rs1",.none))=refX [.str n,dropA "B" g "rs1"]:=by kernel_rfl
 rw [e]
 exact ref_exc (encD_B_rs1_exc Rw g)
theorem refW_B_rs2 {n:Str} {x y z:Nat} (Rw:RowOk n "B" x y z) (g:Str→Int) {i:Int} (hi:¬ (0≤i∧i<32)):okB (refR n (objW "B" g ("rs2",.num i)))∧valB (refR n (objW "B" g ("rs2",.num i)))=true:=by
 have e:refR n (objW "B" g ("rs2",.num i))=refX [.str n,wrongA "B" (updK g "rs2" i) "rs2"]:=by kernel_rfl
 have q:updK g "rs2" i "rs2" = i:=by kernel_rfl
 rw [e]
 exact ref_exc (encW_B_rs2_exc Rw _ (by rw [q]; exact hi))
theorem refD_B_rs2 {n:Str} {x y z:Nat} (Rw:RowOk n "B" x y z) (g:Str→Int):okB (refR n (objW "B" g ("rs2",.none)))∧valB (refR n (objW "B" g ("rs2",.none)))=true:=by
 have e:refR n (objW "B" g ("rs2",.none))=refX [.str n,dropA "B" g "rs2"]:=by kernel_rfl
 rw [e]
 exact ref_exc (encD_B_rs2_exc Rw g)
theorem refs_B {n:Str} {x y z:Nat} (Rw:RowOk n "B" x y z) (g:Str→Int):∀ p∈wrongsL "B",okB (refR n (objW "B" g p))∧valB (refR n (objW "B" g p))=true:=by
 intro p hp
 rw [show wrongsL "B" = ([("rs1",.none),("rs1",.num 32),("rs1",.num (-1)),("rs2",.none),("rs2",.num 32),("rs2",.num (-1))]:List (Str×AV)) by kernel_rfl] at hp
 simp only [List.mem_cons,List.not_mem_nil,or_false] at hp
 rcases hp with q | q | q | q | q | q<;>rw [q]
 ·exact refD_B_rs1 Rw g
 ·exact refW_B_rs1 Rw g (by decide)
 ·exact refW_B_rs1 Rw g (by decide)
 ·exact refD_B_rs2 Rw g
 ·exact refW_B_rs2 Rw g (by decide)
 ·exact refW_B_rs2 Rw g (by decide)
theorem refW_U_rd {n:Str} {x y z:Nat} (Rw:RowOk n "U" x y z) (g:Str→Int) {i:Int} (hi:¬ (0≤i∧i<32)):okB (refR n (objW "U" g ("rd",.num i)))∧valB (refR n (objW "U" g ("rd",.num i)))=true:=by
 have e:refR n (objW "U" g ("rd",.num i))=refX [.str n,wrongA "U" (updK g "rd" i) "rd"]:=by kernel_rfl
 have q:updK g "rd" i "rd" = i:=by kernel_rfl
 rw [e]
 exact ref_exc (encW_U_rd_exc Rw _ (by rw [q]; exact hi))
theorem refD_U_rd {n:Str} {x y z:Nat} (Rw:RowOk n "U" x y z) (g:Str→Int):okB (refR n (objW "U" g ("rd",.none)))∧valB (refR n (objW "U" g ("rd",.none)))=true:=by
 have e:refR n (objW "U" g ("rd",.none))=refX [.str n,dropA "U" g "rd"]:=by kernel_rfl
 rw [e]
 exact ref_exc (encD_U_rd_exc Rw g)
theorem refs_U {n:Str} {x y z:Nat} (Rw:RowOk n "U" x y z) (g:Str→Int):∀ p∈wrongsL "U",okB (refR n (objW "U" g p))∧valB (refR n (objW "U" g p))=true:=by
 intro p hp
 rw [show wrongsL "U" = ([("rd",.none),("rd",.num 32),("rd",.num (-1))]:List (Str×AV)) by kernel_rfl] at hp
 simp only [List.mem_cons,List.not_mem_nil,or_false] at hp
 rcases hp with q | q | q<;>rw [q]
 ·exact refD_U_rd Rw g
 ·exact refW_U_rd Rw g (by decide)
 ·exact refW_U_rd Rw g (by decide)
theorem refW_J_rd {n:Str} {x y z:Nat} (Rw:RowOk n "J" x y z) (g:Str→Int) {i:Int} (hi:¬ (0≤i∧i<32)):okB (refR n (objW "J" g ("rd",.num i)))∧valB (refR n (objW "J" g ("rd",.num i)))=true:=by
 have e:refR n (objW "J" g ("rd",.num i))=refX [.str n,wrongA "J" (updK g "rd" i) "rd"]:=by kernel_rfl
 have q:updK g "rd" i "rd" = i:=by kernel_rfl
 rw [e]
 exact ref_exc (encW_J_rd_exc Rw _ (by rw [q]; exact hi))
theorem refD_J_rd {n:Str} {x y z:Nat} (Rw:RowOk n "J" x y z) (g:Str→Int):okB (refR n (objW "J" g ("rd",.none)))∧valB (refR n (objW "J" g ("rd",.none)))=true:=by
 have e:refR n (objW "J" g ("rd",.none))=refX [.str n,dropA "J" g "rd"]:=by kernel_rfl
 rw [e]
 exact ref_exc (encD_J_rd_exc Rw g)
theorem refs_J {n:Str} {x y z:Nat} (Rw:RowOk n "J" x y z) (g:Str→Int):∀ p∈wrongsL "J",okB (refR n (objW "J" g p))∧valB (refR n (objW "J" g p))=true:=by
 intro p hp
 rw [show wrongsL "J" = ([("rd",.none),("rd",.num 32),("rd",.num (-1))]:List (Str×AV)) by kernel_rfl] at hp
 simp only [List.mem_cons,List.not_mem_nil,or_false] at hp
 rcases hp with q | q | q<;>rw [q]
 ·exact refD_J_rd Rw g
 ·exact refW_J_rd Rw g (by decide)
 ·exact refW_J_rd Rw g (by decide)
theorem refs_F {n:Str} {x y z:Nat} (Rw:RowOk n "F" x y z) (g:Str→Int):∀ p∈wrongsL "F",okB (refR n (objW "F" g p))∧valB (refR n (objW "F" g p))=true:=by
 intro p hp
 rw [show wrongsL "F" = ([]:List (Str×AV)) by kernel_rfl] at hp
 simp only [List.mem_cons,List.not_mem_nil,or_false] at hp
theorem refs_E {n:Str} {x y z:Nat} (Rw:RowOk n "E" x y z) (g:Str→Int):∀ p∈wrongsL "E",okB (refR n (objW "E" g p))∧valB (refR n (objW "E" g p))=true:=by
 intro p hp
 rw [show wrongsL "E" = ([]:List (Str×AV)) by kernel_rfl] at hp
 simp only [List.mem_cons,List.not_mem_nil,or_false] at hp
theorem refsG {n:Str} {x y z:Nat} (g:Str→Int):∀ f∈formsL,RowOk n f x y z→∀ p∈wrongsL f,okB (refR n (objW f g p))∧valB (refR n (objW f g p))=true:=
 by9 (fun Rw=>refs_R Rw g) (fun Rw=>refs_I Rw g) (fun Rw=>refs_H Rw g) (fun Rw=>refs_S Rw g) (fun Rw=>refs_B Rw g) (fun Rw=>refs_U Rw g) (fun Rw=>refs_J Rw g) (fun Rw=>refs_F Rw g) (fun Rw=>refs_E Rw g)
theorem gF_reg {d s t:Nat} (v:Int) (ld:d<32) (ls:s<32) (lt:t<32):RegOk (gF d s t v) d s t:=
 ⟨by kernel_rfl,by kernel_rfl,by kernel_rfl,ld,ls,lt⟩
theorem gF_imm (d s t v:Int):gF d s t v "imm" = v:=by kernel_rfl
theorem room_value (v:Int):∀ f∈immForms,hrF f (halfF f (v.fmod (powF f)*paceG f))=true:=by
 refine by7 ?_ ?_ ?_ ?_ ?_ ?_ ?_
 ·rw [show halfF "I" (v.fmod (powF "I")*paceG "I")=v.fmod 4096*1 - 2048 by kernel_rfl,Int.fmod_eq_emod_of_nonneg _ (by decide)]
  exact room_I (by omega) (by omega) (by omega)
 ·rw [show halfF "H" (v.fmod (powF "H")*paceG "H")=v.fmod 32*1 by kernel_rfl,Int.fmod_eq_emod_of_nonneg _ (by decide)]
  exact room_H (by omega) (by omega) (by omega)
 ·rw [show halfF "S" (v.fmod (powF "S")*paceG "S")=v.fmod 4096*1 - 2048 by kernel_rfl,Int.fmod_eq_emod_of_nonneg _ (by decide)]
  exact room_S (by omega) (by omega) (by omega)
 ·rw [show halfF "B" (v.fmod (powF "B")*paceG "B")=v.fmod 4096*2 - 4096 by kernel_rfl,Int.fmod_eq_emod_of_nonneg _ (by decide)]
  exact room_B (by omega) (by omega) (by omega)
 ·rw [show halfF "U" (v.fmod (powF "U")*paceG "U")=v.fmod 1048576*1 by kernel_rfl,Int.fmod_eq_emod_of_nonneg _ (by decide)]
  exact room_U (by omega) (by omega) (by omega)
 ·rw [show halfF "J" (v.fmod (powF "J")*paceG "J")=v.fmod 1048576*2 - 1048576 by kernel_rfl,Int.fmod_eq_emod_of_nonneg _ (by decide)]
  exact room_J (by omega) (by omega) (by omega)
 ·rw [show halfF "F" (v.fmod (powF "F")*paceG "F")=v.fmod 256*1 by kernel_rfl,Int.fmod_eq_emod_of_nonneg _ (by decide)]
  exact room_F (by omega) (by omega) (by omega)
theorem pow_small (v:Int):∀ f∈formsL,(v.fmod (powF f)).natAbs<2 ^ 64:=by
 have one:∀ m:Int,0<m→m<2 ^ 40→(v.fmod m).natAbs<2 ^ 64:=fun m h1 h2=>by
  rw [Int.fmod_eq_emod_of_nonneg _ (by omega)]
  have a:=Int.emod_nonneg v (show m≠0 by omega)
  have b:=Int.emod_lt_of_pos v h1
  omega
 have all:∀ f∈formsL,0<powF f∧powF f<2 ^ 40:=by decide +kernel
 exact fun f hf=>one _ (all f hf).1 (all f hf).2
theorem encOkG {n:Str} {x y z d s t:Nat} {v:Int} (ld:d<32) (ls:s<32) (lt:t<32):∀ f∈formsL,RowOk n f x y z→(f∈immForms→hrF f v=true)→HX (encX [.str n,fieldsA f (gF d s t v)]) (fun av=>∃ b,intOf av=some (((wordN f x y z d s t v:Nat):Int),b)) False:=by
 have r:=gF_reg v ld ls lt
 have im:∀ f∈immForms,RowOk n f x y z→(f∈immForms→hrF f v=true)→HX (encX [.str n,fieldsA f (gF d s t v)]) (fun av=>∃ b,intOf av=some (((wordN f x y z d s t v:Nat):Int),b)) False:=fun f hf Rw hr=>by
  have:=encOkI r f hf Rw (by rw [gF_imm]; exact hr hf)
  rw [show wordG f x y z d s t (gF d s t v)=wordN f x y z d s t v by show wordN f x y z d s t (gF d s t v "imm")=_; rw [gF_imm]] at this
  exact this
 refine by9 ?_ (im _ (by simp [immForms])) (im _ (by simp [immForms])) (im _ (by simp [immForms])) (im _ (by simp [immForms])) (im _ (by simp [immForms])) (im _ (by simp [immForms])) (im _ (by simp [immForms])) ?_<;>intro Rw _
 ·have:=encOk_R Rw r.hd r.hs r.ht ld ls lt
  rw [gF_imm] at this
  exact this
 ·have:=encOk_E Rw r.hd r.hs r.ht ld ls lt
  rw [gF_imm] at this
  exact this
theorem backsG {x y z d s t:Nat} {v:Int} (ld:d<32) (ls:s<32) (lt:t<32):∀ f∈formsL,xyzOk f x y z→(f∈immForms→hrF f v=true)→∀ k∈keysF f,fieldV f ((wordN f x y z d s t v:Nat):Int) k=gF d s t v k:=by
 have r:=gF_reg v ld ls lt
 have im:∀ f∈immForms,xyzOk f x y z→(f∈immForms→hrF f v=true)→∀ k∈keysF f,fieldV f ((wordN f x y z d s t v:Nat):Int) k=gF d s t v k:=fun f hf hx hr=>by
  have:=backsI r f hf hx (by rw [gF_imm]; exact hr hf)
  rw [show wordG f x y z d s t (gF d s t v)=wordN f x y z d s t v by show wordN f x y z d s t (gF d s t v "imm")=_; rw [gF_imm]] at this
  exact this
 refine by9 ?_ (im _ (by simp [immForms])) (im _ (by simp [immForms])) (im _ (by simp [immForms])) (im _ (by simp [immForms])) (im _ (by simp [immForms])) (im _ (by simp [immForms])) (im _ (by simp [immForms])) ?_<;>intro hx _
 ·have:=backs_R hx r.hd r.hs r.ht ld ls lt
  rw [gF_imm] at this
  exact this
 ·have:=backs_E hx r.hd r.hs r.ht ld ls lt
  rw [gF_imm] at this
  exact this
theorem numR_eq (x y z:Nat) (d s t v:Int):∀ f∈formsL,numR f x y z d s t v=laidX [drF f,known7 x y z d s t v]:=
 by9 (by kernel_rfl) (by kernel_rfl) (by kernel_rfl) (by kernel_rfl) (by kernel_rfl) (by kernel_rfl) (by kernel_rfl) (by kernel_rfl) (by kernel_rfl)
theorem numR_ok {x y z d s t:Nat} {v:Int} (ld:d<32) (ls:s<32) (lt:t<32) {f:Str} (hf:f∈formsL) (hx:xyzOk f x y z):okI (numR f x y z d s t v)∧valI (numR f x y z d s t v)=((wordN f x y z d s t v:Nat):Int):=by
 refine okI_sym ?_
 rw [numR_eq x y z d s t v f hf,laid7 _ _ _ _ _ _ _ f hf,← layG v ld ls lt f hf hx]
 exact layF_hx _ _ 0 0 (by decide) (by decide) (by rw [layL_len _ _ _ _ _ _ _ f hf]; decide)
theorem whichT_hx {wh:Int} {K:RowX→RS} {P:Fl×AEnv×SL→Prop}:∀ {l:List RowX} {k:Nat},((k:Int)≤wh∧wh<k+l.length)→(∀ r∈l,HX (K r) P False)→HX (whichT wh K k l) P False
 | [],k,h,_=>by
  rw [List.length_nil] at h; omega
 | r :: l,k,h,hk=>hx_ite (fun _=>hk r (by simp)) fun e=>whichT_hx (by
  have:=of_decide_eq_false e
  rw [List.length_cons] at h
  omega) fun r' h'=>hk r' (by simp [h'])
theorem refsT_hx {n f:Str} {g:Str→Int} {B:AEnv} {sl:SL} {P:Fl×AEnv×SL→Prop} (hP:P (.nxt,F9 f B,sl)):∀ {l:List (Str×AV)},(∀ p∈l,okB (refR n (objW f g p))∧valB (refR n (objW f g p))=true)→HX (refsT n f g B sl l) P False
 | [],_=>hx_ret hP
 | p :: l,h=>by
  have hp:=h p (by simp)
  refine hx_need hp.1 (hx_ite (fun e=>?_) fun _=>refsT_hx hP fun p' h'=>h p' (by simp [h']))
  rw [hp.2] at e; cases e
abbrev form46 (f:Str) (l:List Int) (a s:Int):R (List AV×AV):=specW c32 4 60 (scopeAt 46) (bodyAt 46) "well" ["form","drawing","rows"] (wellI l a s) [.str f,drF f,rowsL f]
def outW (f:Str) (l:List Int) (a j:Int):List AV×AV:=match memS f immForms with
 | true=>(wellI l (a+1+1+1+1) (drawS l (a+1+1+1) (drawS l (a+1+1) (drawS l (a+1) (drawS l a j)))),.sb true)
 | false=>(wellI l (a+1+1) (drawS l (a+1) (drawS l a j)),.bool true)
theorem lenR_small:∀ f∈formsL,0<lenR f∧lenR f<50:=by decide +kernel
theorem fm_range (v:Int) {m:Int} (h:0<m):0≤v.fmod m∧v.fmod m<m:=by
 rw [Int.fmod_eq_emod_of_nonneg _ (by omega)]
 exact ⟨Int.emod_nonneg _ (by omega),Int.emod_lt_of_pos _ h⟩
theorem endW_ret' {env:AEnv} {items:List AV} {sl:SL} {v:AV} {P:List AV×AV→Prop} (hv:pureA v=true) (hi:pureL items=true) (hp:P (items,v)):HX (endW (.ret v,env,.own (.lst items) :: sl)) P False:=by
 show HX ((frzE (.own (.lst items) :: sl) v).bind _) P False
 unfold frzE
 rw [hv]
 show HX (match pureL items with | true=>R.ret (items,v) | false=>.fail) P False
 rw [hi]
 exact hx_ret hp
theorem form_holds {f:Str} (hf:f∈formsL) {l:List Int} {a j:Int} (h1:0≤a∧a<990) (h2:l.length<1000) (h3:0≤j∧j<2147483648):HX (form46 f l a j) (fun p=>p=outW f l a j) False:=by
 have j1:=drawS_lt l a j h3
 have j2:=drawS_lt l (a+1) _ j1
 have ln:=lenR_small f hf
 refine runW_of (by kernel_rfl) ?_
 show HX (evalS c32 4 (scopeAt 46) 60 (F0 f) (bodyAt 46) (wellS l a j)) _ False
 rw [body46]
 refine cons_of (hx_eq (s46_0 l a j f hf) (hx_need ⟨⟨h1.1,by omega,h2,h3⟩,.inr (.inl rfl),fun n hn=>?_⟩ (hx_ret (next_of ?_))))
 ·simp only [List.mem_cons,List.not_mem_nil,or_false] at hn
  rcases hn with q | q | q | q<;>subst q<;>first | decide | omega
 have w0:=fm_range (drawV l a j) ln.1
 have w1:=fm_range ((drawV l a j).fdiv (lenR f)) (show (0:Int)<32 by decide)
 have w2:=fm_range (((drawV l a j).fdiv (lenR f)).fdiv 32) (show (0:Int)<32 by decide)
 have w3:=fm_range ((((drawV l a j).fdiv (lenR f)).fdiv 32).fdiv 32) (show (0:Int)<32 by decide)
 generalize (drawV l a j).fmod (lenR f)=u0 at *
 generalize ((drawV l a j).fdiv (lenR f)).fmod 32=u1 at *
 generalize (((drawV l a j).fdiv (lenR f)).fdiv 32).fmod 32=u2 at *
 generalize ((((drawV l a j).fdiv (lenR f)).fdiv 32).fdiv 32).fmod 32=u3 at *
 obtain ⟨d,rfl⟩:=Int.eq_ofNat_of_zero_le w1.1
 obtain ⟨s,rfl⟩:=Int.eq_ofNat_of_zero_le w2.1
 obtain ⟨t,rfl⟩:=Int.eq_ofNat_of_zero_le w3.1
 have ld:d<32:=by omega
 have ls:s<32:=by omega
 have lt:t<32:=by omega
 refine cons_of (hx_eq (s46_1 f u0 d s t l (a+1) (drawS l a j)) (hx_need (drawP1 ⟨by omega,by omega,h2,j1⟩) (hx_ret (next_of ?_))))
 generalize (drawV l (a+1) (drawS l a j)).fmod Mx=v0
 refine cons_of (hx_eq (s46_2 u0 d s t v0 _ f hf) (whichT_hx ⟨by omega,by have:lenR f=((rowsOfL f).length:Int):=rfl; omega⟩ fun rw hrw=>hx_ret (next_of ?_)))
 obtain ⟨n,f',x,y,z⟩:=rw
 have hm:=List.mem_filter.mp hrw
 have hff:f'=f:=eq_of_beq hm.2
 subst hff
 have Rw:=rows_ok hm.1
 refine cons_of (hx_eq (s46_3 n x y z u0 d s t v0 _ f' hf) (hx_ret (next_of ?_)))
 refine cons_of (hx_eq (s46_4 n x y z u0 d s t v0 _ f' hf) (hx_need (pow_small v0 f' hf) (hx_ret (next_of ?_))))
 refine cons_of (hx_eq (s46_5 n x y z u0 d s t _ _ f' hf) (hx_ret (next_of ?_)))
 have hr:=room_value v0 f'
 generalize halfF f' (v0.fmod (powF f')*paceG f')=v at *
 refine cons_of (hx_eq (s46_6 n f' x y z u0 d s t v _) (hx_ret (next_of ?_)))
 have nr:=numR_ok (v:=v) ld ls lt hf Rw.xyz
 refine cons_of (hx_eq (s46_7 n x y z u0 d s t v _ f' hf) (hx_need nr.1 (hx_ret (next_of ?_))))
 rw [nr.2]
 have en:=enc_val (encOkG (v:=v) ld ls lt f' hf Rw hr)
 have bk:=backsG (v:=v) ld ls lt f' hf Rw.xyz hr
 have hit:=hitG (x:=x) (y:=y) (z:=z) v ld ls lt f' hf Rw.xyz
 have fsy:sy (fieldsA f' (gF d s t v))=fieldsA f' (gF d s t v):=by
  unfold fieldsA
  show AV.dS _ (List.map syV (List.map _ _))=_
  rw [List.map_map]; rfl
 have eE:encR n (fieldsA f' (gF d s t v))=encN [.str n,fieldsA f' (gF d s t v)]:=by
  show encN [sy (.str n),sy (fieldsA f' (gF d s t v))]=_
  rw [fsy]; rfl
 have dq:eqN (und (decV ((wordN f' x y z d s t v:Nat):Int) rowsF)) (und (.tup [.str n,fieldsA f' (gF d s t v)]))=some true:=dec_eq (o:=fun k=>.sym (gF d s t v k)) Rw hit.1 (fun k hk=>⟨true,by rw [bk k hk]; rfl⟩)
 have dP:decP ((wordN f' x y z d s t v:Nat):Int) n (fieldsA f' (gF d s t v)):=by unfold decP; rw [dq]; rfl
 have dB:decB ((wordN f' x y z d s t v:Nat):Int) n (fieldsA f' (gF d s t v))=false:=by unfold decB; rw [dq]; rfl
 refine cons_of (hx_eq (s46_8 n x y z u0 d s t v _ _ f' hf) (hx_need (by rw [eE]; exact en.1) (hx_need rfl (hx_need (fun _=>⟨by have:=hit.2; omega,dP,trivial⟩) (hx_ite (fun e=>?_) fun _=>hx_ret (next_of ?_))))))
 ·rw [eE,en.2,dB,beq_self_eq_true] at e; cases e
 refine cons_of (hx_eq (s46_9 n x y z u0 d s t v _ _ f' hf) (refsT_hx (next_of ?_) (refsG _ f' hf Rw)))
 cases hi:memS f' immForms with
 | true=>
  have hfi:=memS_mem hi
  refine hx_eq (s46_10 n x y z u0 d s t v _ l (a+1+1) (drawS l (a+1) (drawS l a j)) f' hfi) (hx_need ⟨x,y,z,d,s,t,_,hfi,Rw,gF_reg v ld ls lt,by rw [gF_imm]; exact hr hfi,rfl,rfl,by omega,h2,j2⟩ (hx_ret ?_))
  exact endW_ret' rfl rfl (by unfold outW; rw [hi])
 | false=>
  have hf2:f'∈(["R","E"]:List Str):=by
   have all:∀ f∈formsL,memS f immForms=false→f∈(["R","E"]:List Str):=by decide +kernel
   exact all f' hf hi
  refine hx_eq (s46_10' n x y z u0 d s t v _ _ f' hf2) (hx_ret ?_)
  exact endW_ret' rfl rfl (by unfold outW; rw [hi])
def formS:List AV→List AV→R (List AV×AV):=fun items args=>match items,args with
 | [.ints l,.sym a,.sym j],[.str f,dr,rw]=>.need (f∈formsL∧dr=drF f∧rw=rowsL f∧(0≤a∧a<990)∧l.length<1000∧(0≤j∧j<2147483648)) (.ret (outW f l a j))
 | _,_=>.fail
theorem formS_noexc (x l:List AV):NoExc (formS x l):=by
 unfold formS
 split<;>trivial
theorem form_weak (items args:List AV) (P:List AV×AV→Prop) (hh:(formS items args).Holds P False):(specW c32 4 60 (scopeAt 46) (bodyAt 46) "well" ["form","drawing","rows"] items args).Holds P False:=by
 unfold formS at hh
 split at hh
 ·rename_i l a j f dr rw
  have hq:(f∈formsL∧dr=drF f∧rw=rowsL f∧(0≤a∧a<990)∧l.length<1000∧(0≤j∧j<2147483648))∧P (outW f l a j):=hh
  obtain ⟨⟨hf,e1,e2,h1,h2,h3⟩,hp⟩:=hq
  rw [e1,e2]
  exact (hx_mono (form_holds hf h1 h2 h3) fun p e=>by rw [e]; exact hp).out
 ·exact hh.elim
def c33:Ctx:={ c32 with wfuns:=("_law_is_form_right",⟨4,formS⟩) :: c32.wfuns }
theorem gok33 (X:(Kx w.params).In h) (lim:h.NoLimit):GOK prog w c33 h:=gok_addW (gok32 X lim) (gm_of X (by kernel_rfl)) ⟨o652 w.params,_,X 652 _ (by kernel_rfl),rfl⟩ ((runW_ok (d46 X lim) (gok32 X lim) rfl 60).weaken form_weak) formS_noexc
end
end Mine
end
section
open PySem.SeqAt MineH
namespace Mine
section
variable {prog:Program} {w:World} {h:Heap}
def lens:List Nat→R AV→R AV
 | [],x=>x
 | n :: l,x=>.need (n≤16777216) (lens l x)
theorem lens_hx {P:AV→Prop} {x:R AV} (h:HX x P False):∀ {l:List Nat},(∀ n∈l,n≤16777216)→HX (lens l x) P False
 | [],_=>h
 | n :: l,hl=>hx_need (hl n (by simp)) (lens_hx h fun m hm=>hl m (by simp [hm]))
def lensA:List Nat:=[2,2,2,2,2,2,2,2,2,2,2,2,2,2,2,2,3,3,2,2,2,2]
def lensX:List Nat:=[2,2,2,2,2,2,2,2,2,2,3,3,3,3,3,3,3,3,3,3,3,3,3,3,3,3,3,3,3,3,3,3]
def regT (k:Int):R AV:=lens lensA (.need (true=true) (.need (false=false→(0≤k∧k<14)∧True) (.ite (false||false) (.ret (.bool false)) (lens lensX (.need (true=true) (.need (true=true→true=true∧True) (.ret (.sb (true&&true)))))))))
abbrev regE (k:Int):R AV:=run c33 2 50 ["wrong"] [.sym k]
theorem reg_0:regE 0=regT 0:=by kernel_rfl
theorem reg_1:regE 1=regT 1:=by kernel_rfl
theorem reg_2:regE 2=regT 2:=by kernel_rfl
theorem reg_3:regE 3=regT 3:=by kernel_rfl
theorem reg_4:regE 4=regT 4:=by kernel_rfl
theorem reg_5:regE 5=regT 5:=by kernel_rfl
theorem reg_6:regE 6=regT 6:=by kernel_rfl
theorem reg_7:regE 7=regT 7:=by kernel_rfl
theorem reg_8:regE 8=regT 8:=by kernel_rfl
theorem reg_9:regE 9=regT 9:=by kernel_rfl
theorem reg_10:regE 10=regT 10:=by kernel_rfl
theorem reg_11:regE 11=regT 11:=by kernel_rfl
theorem reg_12:regE 12=regT 12:=by kernel_rfl
theorem reg_13:regE 13=regT 13:=by kernel_rfl
theorem regT_hx {k:Int} (hk:0≤k∧k<14):HX (regT k) (fun av=>av=.sb true) False:=by
 unfold regT
 refine lens_hx ?_ (by decide)
 refine hx_need rfl ?_
 refine hx_need (fun _=>⟨hk,trivial⟩) ?_
 refine hx_ite (fun e=>absurd e (by decide)) fun _=>?_
 refine lens_hx ?_ (by decide)
 exact hx_need rfl (hx_need (fun _=>⟨rfl,trivial⟩) (hx_ret rfl))
theorem reg_holds {k:Int} (hk:0≤k∧k<14):HX (regE k) (fun av=>av=.sb true) False:=by
 have key:∀ j:Nat,j<14→HX (regE (j:Int)) (fun av=>av=.sb true) False:=fun j hj=>by
  match j,hj with
  | 0,_=>exact hx_eq reg_0 (regT_hx (by decide))
  | 1,_=>exact hx_eq reg_1 (regT_hx (by decide))
  | 2,_=>exact hx_eq reg_2 (regT_hx (by decide))
  | 3,_=>exact hx_eq reg_3 (regT_hx (by decide))
  | 4,_=>exact hx_eq reg_4 (regT_hx (by decide))
  | 5,_=>exact hx_eq reg_5 (regT_hx (by decide))
  | 6,_=>exact hx_eq reg_6 (regT_hx (by decide))
  | 7,_=>exact hx_eq reg_7 (regT_hx (by decide))
  | 8,_=>exact hx_eq reg_8 (regT_hx (by decide))
  | 9,_=>exact hx_eq reg_9 (regT_hx (by decide))
  | 10,_=>exact hx_eq reg_10 (regT_hx (by decide))
  | 11,_=>exact hx_eq reg_11 (regT_hx (by decide))
  | 12,_=>exact hx_eq reg_12 (regT_hx (by decide))
  | 13,_=>exact hx_eq reg_13 (regT_hx (by decide))
 obtain ⟨j,rfl⟩:=Int.eq_ofNat_of_zero_le hk.1
 exact key j (by omega)
def regS:List AV→R AV:=fun args=>match args with
 | [.sym k]=>.need (0≤k∧k<14) (.ret (.sb true))
 | _=>.fail
theorem regS_noexc (l:List AV):NoExc (regS l):=by
 unfold regS
 split<;>trivial
theorem reg_ok (args:List AV) (P:AV→Prop) (hh:HX (regS args) P False):∃ args',(∀ V vs,HasL prog w V [] args vs→HasL prog w V [] args' vs)∧HX (run c33 2 50 ["wrong"] args') (fun av=>∃ av',P av'∧Sub prog w av av') False:=by
 unfold regS at hh
 split at hh
 ·rename_i k
  have hq:(0≤k∧k<14)∧P (.sb true):=hh.out
  exact ⟨[.sym k],fun _ _ h=>h,ok_of (reg_holds hq.1) hq.2⟩
 ·exact hh.out.elim
def c34:Ctx:=c33.add "_law_are_registers_right" 2 regS
theorem gok34 (X:(Kx w.params).In h) (lim:h.NoLimit):GOK prog w c34 h:=gok_add (gok33 X lim) (gm_of X (by kernel_rfl)) ⟨o676 w.params,_,X 676 _ (by kernel_rfl),rfl⟩ ((run_ok (d50 X lim) (gok33 X lim) rfl).coerce reg_ok) regS_noexc
def sgnX:List AV→R AV:=run c6 0 17 ["value","width"]
def lowX:List AV→R AV:=run c8 1 19 ["value"]
def highX:List AV→R AV:=run c7 0 18 ["value"]
def sgnS:List AV→R AV:=fun args=>joinI sgnX (args.map sy)
def lowS:List AV→R AV:=fun args=>joinI lowX (args.map sy)
def highS:List AV→R AV:=fun args=>joinI highX (args.map sy)
def c35:Ctx:=((c34.add "signed" 0 sgnS).add "low_part" 1 lowS).add "high_part" 0 highS
theorem gok35 (X:(Kx w.params).In h) (lim:h.NoLimit):GOK prog w c35 h:=
 gok_add (gok_add (gok_add (gok34 X lim) (gm_of X (by kernel_rfl)) ⟨o272 w.params,_,X 272 _ (by kernel_rfl),rfl⟩ ((run_ok (d17 X lim) (gok6 X lim) rfl).joinI) fun _=>joinI_noexc _)
  (gm_of X (by kernel_rfl)) ⟨o286 w.params,_,X 286 _ (by kernel_rfl),rfl⟩ ((run_ok (d19 X lim) (gok8 X lim) rfl).joinI) fun _=>joinI_noexc _)
  (gm_of X (by kernel_rfl)) ⟨o279 w.params,_,X 279 _ (by kernel_rfl),rfl⟩ ((run_ok (d18 X lim) (gok7 X lim) rfl).joinI) fun _=>joinI_noexc _
def sgT (v w:Int):R AV:=.need (0≤w∧w≤1000000) (.need (0≤w - 1) (.need (true=true) (.need ((sgc v w=true→(0≤w∧w≤1000000)∧True)∧(sgc v w=false→True)) (.ret (.sym (sgV v w))))))
theorem sgn_tree (v w:Int):sgnX [.sym v,.sym w]=sgT v w:=by kernel_rfl
theorem low_tree (v:Int):lowX [.sym v]=sgN v 12 (.ret (.sym (sgV v 12))):=by kernel_rfl
theorem high_tree (v:Int):highX [.sym v]=.ret (.sym (im (v+2048) 12 1048575)):=by kernel_rfl
abbrev step49 (k i:Nat) (env:AEnv) (sl:SL):RS:=stepS c35 2 k (scopeAt 49) (evalS c35 2 (scopeAt 49) k) env (stAt (bodyAt 49) i) sl
theorem body49:bodyAt 49=[stAt (bodyAt 49) 0,stAt (bodyAt 49) 1,stAt (bodyAt 49) 2]:=by kernel_rfl
def P0 (v w:Int):AEnv:=[("value",.sym v),("width",.sym w)]
def P1 (v w c lo hi:Int):AEnv:=("high",.sym hi) :: ("low",.sym lo) :: ("cut",.sym c) :: P0 v w
def sgR (v w:Int):R AV:=sgnX ([.sym v,.sym w].map sy)
def loR (v:Int):R AV:=lowX ([.sym v].map sy)
def hiR (v:Int):R AV:=highX ([.sym v].map sy)
theorem s49_0 (v w:Int):step49 59 0 (P0 v w) []=.need (okI (sgR v w)) (.need (okI (loR v)) (.need (okI (hiR v)) (.ret (.nxt,P1 v w (valI (sgR v w)) (valI (loR v)) (valI (hiR v)),[])))):=by kernel_rfl
def p2 (w:Int):Int:=1*2 ^ w.toNat
def cutB (w c:Int):Bool:=decide (-(p2 w)≤2*c)&&decide (2*c<p2 w)
def remB (v w c:Int):Bool:=!((c - v).fmod (p2 w)==0)
theorem s49_1 (v w c lo hi:Int):step49 58 1 (P1 v w c lo hi) []=.need (0≤w∧w≤1000000) (.need (c.natAbs<2 ^ 64) (.need (decide (-(p2 w)≤2*c)=true→(0≤w∧w≤1000000)∧True)
  (.need ((!cutB w c)=false→(0≤w∧w≤1000000)∧p2 w≠0∧true=true∧True) (.ite ((!cutB w c)||remB v w c) (retF (P1 v w c lo hi) []) (.ret (.nxt,P1 v w c lo hi,[])))))):=by kernel_rfl
def loB (lo:Int):Bool:=decide (-2048≤lo)&&decide (lo<2048)
def hiB (hi:Int):Bool:=decide (0≤hi)&&decide (hi<1048576)
def eqB (v lo hi:Int):Bool:=(hi*4096+lo - v).fmod 4294967296==0
theorem s49_2 (v w c lo hi:Int):evalS c35 2 (scopeAt 49) 58 (P1 v w c lo hi) [stAt (bodyAt 49) 2] []=.need (decide (-2048≤lo)=true→True) (.need (loB lo=true→(decide (0≤hi)=true→True)∧(hiB hi=true→hi.natAbs<2 ^ 64∧true=true∧True)∧True)
  (.ret (.ret (.sb (loB lo&&(hiB hi&&eqB v lo hi))),P1 v w c lo hi,[]))):=by kernel_rfl
end
end Mine
end
section
open PySem.SeqAt MineH
namespace Mine
section
variable {prog:Program} {w:World} {h:Heap}
theorem p2_nat (n:Nat):p2 (n:Int)=((2 ^ n:Nat):Int):=by
 unfold p2
 rw [Int.toNat_natCast,Int.one_mul]; push_cast; rfl
theorem sgV_law (v:Int) (m:Nat):(-(2:Int) ^ m≤sgV v ((m+1:Nat):Int)∧sgV v ((m+1:Nat):Int)<2 ^ m)∧∃ q:Int,sgV v ((m+1:Nat):Int)=v+2 ^ (m+1)*q:=by
 have e1:sgx v ((m+1:Nat):Int)=v % 2 ^ (m+1):=by
  unfold sgx
  rw [Int.toNat_natCast,← and_mask]
  have:=Nat.two_pow_pos (m+1)
  congr 1
  rw [Int.natCast_sub this]; push_cast; omega
 have hp:(0:Int)<2 ^ m:=pow_pos' m
 have e2:sgc v ((m+1:Nat):Int)=((v % 2 ^ (m+1)) / 2 ^ m==1):=by
  unfold sgc
  rw [e1,show (((m+1:Nat):Int) - 1).toNat=m by omega,fdiv_pow]
 unfold sgV
 rw [e1,e2]
 have l1:=Int.emod_nonneg v (Int.ne_of_gt (pow_pos' (m+1)))
 have l2:=Int.emod_lt_of_pos v (pow_pos' (m+1))
 have l3:=Int.mul_ediv_add_emod v (2 ^ (m+1))
 rw [Int.pow_succ] at *
 generalize hP:(2:Int) ^ m=P at *
 generalize hr:v % (P*2)=r at *
 generalize hq:v / (P*2)=q at *
 have d1:=Int.mul_ediv_add_emod r P
 have d2:=Int.emod_nonneg r (Int.ne_of_gt hp)
 have d3:=Int.emod_lt_of_pos r hp
 have dv:r / P=0∨r / P=1:=by
  have a:0≤r / P:=Int.ediv_nonneg l1 (Int.le_of_lt hp)
  have b:r / P<2:=Int.ediv_lt_of_lt_mul hp (by omega)
  omega
 rcases dv with k | k
 ·rw [k] at d1 ⊢
  rw [show ((0:Int)==1)=false from rfl]
  show (_≤r∧r<_)∧∃ q',r=_
  refine ⟨⟨by omega,by omega⟩,-q,?_⟩
  rw [Int.mul_neg]; omega
 ·rw [k] at d1 ⊢
  rw [show ((1:Int)==1)=true from rfl,Int.toNat_natCast]
  show (_≤r - 1*2 ^ (m+1)∧r - 1*2 ^ (m+1)<_)∧∃ q',r - 1*2 ^ (m+1)=_
  rw [Int.pow_succ,hP]
  refine ⟨⟨by omega,by omega⟩,-q - 1,?_⟩
  rw [Int.mul_sub,Int.mul_neg]; omega
theorem parts_plain (v:Int) {m:Nat}:(!cutB ((m+1:Nat):Int) (sgV v ((m+1:Nat):Int)))=false∧remB v ((m+1:Nat):Int) (sgV v ((m+1:Nat):Int))=false∧(sgV v ((m+1:Nat):Int)).natAbs≤2 ^ m:=by
 obtain ⟨⟨h1,h2⟩,q,h3⟩:=sgV_law v m
 have pp:p2 ((m+1:Nat):Int)=2 ^ m*2:=by rw [p2_nat,Nat.pow_succ]; push_cast; rfl
 have hp:(0:Int)<2 ^ m:=pow_pos' m
 refine ⟨?_,?_,?_⟩
 ·unfold cutB
  rw [pp,decide_eq_true (by omega),decide_eq_true (by omega)]; rfl
 ·unfold remB
  rw [pp,Int.fmod_eq_emod_of_nonneg _ (by omega),show sgV v ((m+1:Nat):Int) - v=2 ^ m*2*q by rw [h3,Int.pow_succ]; omega,Int.mul_emod_right]; rfl
 ·have:((2 ^ m:Nat):Int)=2 ^ m:=by push_cast; rfl
  omega
theorem low_plain (v:Int):loB (sgV v 12)=true∧hiB (im (v+2048) 12 1048575)=true∧eqB v (sgV v 12) (im (v+2048) 12 1048575)=true∧(im (v+2048) 12 1048575).natAbs<2 ^ 64:=by
 obtain ⟨⟨h1,h2⟩,q,h3⟩:=sgV_law v 11
 rw [show sgV v 12=sgV v ((11+1:Nat):Int) from rfl]
 generalize sgV v ((11+1:Nat):Int)=lo at *
 have e:im (v+2048) 12 1048575=(v+2048) / 4096 % 1048576:=by
  have:=im_pc (v+2048) 12 20
  rw [pc_eq] at this
  exact this
 rw [e]
 refine ⟨?_,?_,?_,by omega⟩
 ·unfold loB
  rw [decide_eq_true (by omega),decide_eq_true (by omega)]; rfl
 ·unfold hiB
  rw [decide_eq_true (by omega),decide_eq_true (by omega)]; rfl
 ·unfold eqB
  rw [Int.fmod_eq_emod_of_nonneg _ (by decide)]
  refine beq_iff_eq.mpr ?_
  omega
theorem parts_holds (v:Int) {m:Nat} (hm:m<32):HX (run c35 2 49 ["value","width"] [.sym v,.sym ((m+1:Nat):Int)]) (fun av=>av=.sb true) False:=by
 obtain ⟨k1,k2,k3⟩:=parts_plain v (m:=m)
 obtain ⟨l1,l2,l3,l4⟩:=low_plain v
 have hp:(2:Nat) ^ m≤2 ^ 31:=Nat.pow_le_pow_right (by decide) (by omega)
 have s1:okI (sgR v ((m+1:Nat):Int))∧valI (sgR v ((m+1:Nat):Int))=sgV v ((m+1:Nat):Int):=okI_sym (by
  show HX (sgnX [.sym v,.sym ((m+1:Nat):Int)]) _ False
  rw [sgn_tree]
  exact hx_need (by omega) (hx_need (by omega) (hx_need rfl (hx_need ⟨fun _=>⟨by omega,trivial⟩,fun _=>trivial⟩ (hx_ret rfl)))))
 have s2:okI (loR v)∧valI (loR v)=sgV v 12:=okI_sym (by
  show HX (lowX [.sym v]) _ False
  rw [low_tree]
  exact ⟨sgN_holds rfl⟩)
 have s3:okI (hiR v)∧valI (hiR v)=im (v+2048) 12 1048575:=okI_sym (by
  show HX (highX [.sym v]) _ False
  rw [high_tree]
  exact hx_ret rfl)
 refine run_of (by kernel_rfl) ?_
 show HX (evalS c35 2 (scopeAt 49) 60 (P0 v ((m+1:Nat):Int)) (bodyAt 49) []) _ False
 rw [body49]
 refine cons_of (hx_eq (s49_0 v _) (hx_need s1.1 (hx_need s2.1 (hx_need s3.1 (hx_ret (next_of ?_))))))
 rw [s1.2,s2.2,s3.2]
 have hw:(0:Int)≤((m+1:Nat):Int)∧((m+1:Nat):Int)≤1000000:=by omega
 refine cons_of (hx_eq (s49_1 v _ _ _ _) (hx_need hw (hx_need (by omega) (hx_need (fun _=>⟨hw,trivial⟩) (hx_need (fun _=>⟨hw,?_,rfl,trivial⟩) (hx_ite (fun e=>?_) fun _=>hx_ret (next_of ?_)))))))
 ·rw [p2_nat]; have:=Nat.two_pow_pos (m+1); omega
 ·rw [k1,k2] at e; exact absurd e (by decide)
 refine hx_eq (s49_2 v _ _ _ _) (hx_need (fun _=>trivial) (hx_need (fun _=>⟨fun _=>trivial,fun _=>⟨l4,rfl,trivial⟩,trivial⟩) (hx_ret ?_)))
 rw [l1,l2,l3]
 exact ⟨rfl⟩
def partS:List AV→R AV:=fun args=>match args with
 | [.sym v,.sym k]=>.need (1≤k∧k≤32) (.ret (.sb true))
 | _=>.fail
theorem partS_noexc (l:List AV):NoExc (partS l):=by
 unfold partS
 split<;>trivial
theorem part_ok (args:List AV) (P:AV→Prop) (hh:HX (partS args) P False):∃ args',(∀ V vs,HasL prog w V [] args vs→HasL prog w V [] args' vs)∧HX (run c35 2 49 ["value","width"] args') (fun av=>∃ av',P av'∧Sub prog w av av') False:=by
 unfold partS at hh
 split at hh
 ·rename_i v k
  have hq:(1≤k∧k≤32)∧P (.sb true):=hh.out
  obtain ⟨m,hm⟩:∃ m:Nat,k=((m+1:Nat):Int):=⟨(k - 1).toNat,by omega⟩
  refine ⟨[.sym v,.sym k],fun _ _ h=>h,?_⟩
  rw [hm]
  exact ok_of (parts_holds v (by omega)) hq.2
 ·exact hh.out.elim
def c36:Ctx:=c35.add "_law_are_parts_right" 2 partS
theorem gok36 (X:(Kx w.params).In h) (lim:h.NoLimit):GOK prog w c36 h:=gok_add (gok35 X lim) (gm_of X (by kernel_rfl)) ⟨o671 w.params,_,X 671 _ (by kernel_rfl),rfl⟩ ((run_ok (d49 X lim) (gok35 X lim) rfl).coerce part_ok) partS_noexc
end
end Mine
end
section
open PySem.SeqAt MineH
namespace Mine
section
variable {prog:Program} {w:World} {h:Heap}
abbrev step51 (k i:Nat) (env:AEnv) (sl:SL):RS:=stepS c36 5 k (scopeAt 51) (evalS c36 5 (scopeAt 51) k) env (stAt (bodyAt 51) i) sl
def L0 (l:List Int):AEnv:=[("numbers",.ints l)]
def L1 (l:List Int):AEnv:=("rows",v_ROWS) :: ("well",.loc 0) :: L0 l
def L2 (l:List Int) (u0 u1 u2 u3 u4:Int):AEnv:=("ill",.sym u4) :: ("wrong",.sym u3) :: ("width",.sym u2) :: ("first",.sym u1) :: ("which",.sym u0) :: L1 l
def L3 (l:List Int) (u0 u1 u2 u3 u4 hi lo:Int):AEnv:=("low",.sym lo) :: ("high",.sym hi) :: L2 l u0 u1 u2 u3 u4
def L6 (l:List Int) (u0 u1 u2 u3 u4 hi lo:Int):AEnv:=("known_rows",v_BYOP) :: ("pictures",.loc 1) :: L3 l u0 u1 u2 u3 u4 hi lo
def seed (l:List Int):Int:=l.sum.fmod 65537+12345
theorem s51_1 (l:List Int):step51 59 1 (L0 l) []=.ret (.nxt,L1 l,[.own (.lst [.ints l,.num 0,.sym (seed l)])]):=by kernel_rfl
def dr5 (v:Int) (K:Int→Int→Int→Int→Int→RS):RS:=K (v.fmod 48) ((v.fdiv 48).fmod 32) (((v.fdiv 48).fdiv 32).fmod 32) ((((v.fdiv 48).fdiv 32).fdiv 32).fmod 14) (((((v.fdiv 48).fdiv 32).fdiv 32).fdiv 14).fmod 6)
theorem s51_2 (l:List Int) (s:Int):step51 58 2 (L1 l) [.own (.lst [.ints l,.num 0,.sym s])]=.need (drawP l 0 s [48,32,32,14,6])
  (dr5 (drawV l 0 s) fun u0 u1 u2 u3 u4=>.ret (.nxt,L2 l u0 u1 u2 u3 u4,wellS l (0+1) (drawS l 0 s))):=by kernel_rfl
theorem s51_3 (l:List Int) (u0 u1 u2 u3 u4 a s:Int):step51 57 3 (L2 l u0 u1 u2 u3 u4) (wellS l a s)=.need (drawP l a s [Mx]) (.need (drawP l (a+1) (drawS l a s) [Mx])
  (.ret (.nxt,L3 l u0 u1 u2 u3 u4 ((drawV l a s).fmod Mx) ((drawV l (a+1) (drawS l a s)).fmod Mx),wellS l (a+1+1) (drawS l (a+1) (drawS l a s))))):=by kernel_rfl
theorem s51_4 (l:List Int) (u0 u1 u2 u3 u4 hi lo:Int) (sl:SL):step51 56 4 (L3 l u0 u1 u2 u3 u4 hi lo) sl=.need (hi.natAbs<2 ^ 64) (.need (1≤u2+1∧u2+1≤32) (.need ((!true)=false→lo.natAbs<2 ^ 64∧hi.natAbs<2 ^ 64∧(1≤32 - u2∧32 - u2≤32)∧True)
  (.ite ((!true)||!true) (retF (L3 l u0 u1 u2 u3 u4 hi lo) sl) (.ret (.nxt,L3 l u0 u1 u2 u3 u4 hi lo,sl))))):=by kernel_rfl
def noN:List Str:=match v_N with | .lst l=>(match strsOf l with | some m=>m | none=>[]) | _=>[]
def refN (k:Int):R AV:=refX ([.str (nthStr noN k.toNat),.dS ["rd","rs1","imm"] [.num 1,.num 1,.num 0]].map sy)
theorem s51_5 (l:List Int) (u0 u1 u2 u3 u4 hi lo:Int) (sl:SL):step51 55 5 (L3 l u0 u1 u2 u3 u4 hi lo) sl=.need (0≤u3∧u3<14) (.need ((!true)=false→(0≤u4∧u4<6)∧okB (refN u4)∧True)
  (.ite ((!true)||!valB (refN u4)) (retF (L3 l u0 u1 u2 u3 u4 hi lo) sl) (.ret (.nxt,L3 l u0 u1 u2 u3 u4 hi lo,sl)))):=by kernel_rfl
theorem s51_6 (l:List Int) (u0 u1 u2 u3 u4 hi lo:Int) (W:List AV):step51 54 6 (L3 l u0 u1 u2 u3 u4 hi lo) [.own (.lst W)]=.need (v_ROWS=v_ROWS) (.ret (.nxt,L6 l u0 u1 u2 u3 u4 hi lo,[.own (.lst W),.own (.dS [] [])])):=by kernel_rfl
end
end Mine
end
section
open PySem.SeqAt MineH
namespace Mine
section
variable {prog:Program} {w:World} {h:Heap}
abbrev f51:Expr×Expr×List Stmt×Pos:=forP (stAt (bodyAt 51) 7)
def b51:List Stmt:=f51.2.2.1
theorem iter51 (l:List Int) (u0 u1 u2 u3 u4 hi lo:Int) (sl:SL):evalE c36 5 53 (scopeAt 51) (L6 l u0 u1 u2 u3 u4 hi lo) f51.2.1 sl=.ret (none,v_P):=by kernel_rfl
def L7 (l:List Int) (u0 u1 u2 u3 u4 hi lo:Int) (f:AV):AEnv:=("form",f) :: L6 l u0 u1 u2 u3 u4 hi lo
theorem bind51 (l:List Int) (u0 u1 u2 u3 u4 hi lo:Int) (f:AV):bindP (scopeAt 51) f51.1 f (L6 l u0 u1 u2 u3 u4 hi lo)=some (L7 l u0 u1 u2 u3 u4 hi lo f):=by kernel_rfl
theorem bind51' (l:List Int) (u0 u1 u2 u3 u4 hi lo:Int) (f g:AV):bindP (scopeAt 51) f51.1 f (L7 l u0 u1 u2 u3 u4 hi lo g)=some (L7 l u0 u1 u2 u3 u4 hi lo f):=by kernel_rfl
def slP (l:List Int) (a s:Int) (i:Nat):SL:=[.own (.lst (wellI l a s)),.own (.dS (formsL.take i) (drawL.take i))]
def FP (f:Str) (l:List Int) (a j:Int):Prop:=f∈formsL∧drF f=drF f∧rowsL f=rowsL f∧(0≤a∧a<990)∧l.length<1000∧(0≤j∧j<2147483648)
def nextA (f:Str) (a:Int):Int:=match memS f immForms with | true=>a+1+1+1+1 | false=>a+1+1
def nextJ (f:Str) (l:List Int) (a j:Int):Int:=match memS f immForms with
 | true=>drawS l (a+1+1+1) (drawS l (a+1+1) (drawS l (a+1) (drawS l a j)))
 | false=>drawS l (a+1) (drawS l a j)
def turnF (l:List Int) (u0 u1 u2 u3 u4 hi lo:Int) (f:Str) (i:Nat) (a j:Int):RS:=.need (FP f l a j) (match memS f immForms with
 | true=>.ite (!true) (retF (L7 l u0 u1 u2 u3 u4 hi lo (.str f)) (slP l (nextA f a) (nextJ f l a j) (i+1))) (.ret (.nxt,L7 l u0 u1 u2 u3 u4 hi lo (.str f),slP l (nextA f a) (nextJ f l a j) (i+1)))
 | false=>.ret (.nxt,L7 l u0 u1 u2 u3 u4 hi lo (.str f),slP l (nextA f a) (nextJ f l a j) (i+1)))
abbrev turn51 (l:List Int) (u0 u1 u2 u3 u4 hi lo:Int) (f:Str) (i:Nat) (a j:Int):RS:=evalS c36 5 (scopeAt 51) 53 (L7 l u0 u1 u2 u3 u4 hi lo (.str f)) b51 (slP l a j i)
theorem turn_R (l:List Int) (u0 u1 u2 u3 u4 hi lo a j:Int):turn51 l u0 u1 u2 u3 u4 hi lo "R" 0 a j=turnF l u0 u1 u2 u3 u4 hi lo "R" 0 a j:=by kernel_rfl
theorem turn_I (l:List Int) (u0 u1 u2 u3 u4 hi lo a j:Int):turn51 l u0 u1 u2 u3 u4 hi lo "I" 1 a j=turnF l u0 u1 u2 u3 u4 hi lo "I" 1 a j:=by kernel_rfl
theorem turn_H (l:List Int) (u0 u1 u2 u3 u4 hi lo a j:Int):turn51 l u0 u1 u2 u3 u4 hi lo "H" 2 a j=turnF l u0 u1 u2 u3 u4 hi lo "H" 2 a j:=by kernel_rfl
theorem turn_S (l:List Int) (u0 u1 u2 u3 u4 hi lo a j:Int):turn51 l u0 u1 u2 u3 u4 hi lo "S" 3 a j=turnF l u0 u1 u2 u3 u4 hi lo "S" 3 a j:=by kernel_rfl
theorem turn_B (l:List Int) (u0 u1 u2 u3 u4 hi lo a j:Int):turn51 l u0 u1 u2 u3 u4 hi lo "B" 4 a j=turnF l u0 u1 u2 u3 u4 hi lo "B" 4 a j:=by kernel_rfl
theorem turn_U (l:List Int) (u0 u1 u2 u3 u4 hi lo a j:Int):turn51 l u0 u1 u2 u3 u4 hi lo "U" 5 a j=turnF l u0 u1 u2 u3 u4 hi lo "U" 5 a j:=by kernel_rfl
theorem turn_J (l:List Int) (u0 u1 u2 u3 u4 hi lo a j:Int):turn51 l u0 u1 u2 u3 u4 hi lo "J" 6 a j=turnF l u0 u1 u2 u3 u4 hi lo "J" 6 a j:=by kernel_rfl
theorem turn_F (l:List Int) (u0 u1 u2 u3 u4 hi lo a j:Int):turn51 l u0 u1 u2 u3 u4 hi lo "F" 7 a j=turnF l u0 u1 u2 u3 u4 hi lo "F" 7 a j:=by kernel_rfl
theorem turn_E (l:List Int) (u0 u1 u2 u3 u4 hi lo a j:Int):turn51 l u0 u1 u2 u3 u4 hi lo "E" 8 a j=turnF l u0 u1 u2 u3 u4 hi lo "E" 8 a j:=by kernel_rfl
def L8 (l:List Int) (u0 u1 u2 u3 u4 hi lo:Int) (n f:Str) (x y z:Int):AEnv:=("fixed",xyzA x y z) :: ("form",.str f) :: ("name",.str n) :: L6 l u0 u1 u2 u3 u4 hi lo
theorem s51_8 (l:List Int) (u0 u1 u2 u3 u4 hi lo:Int) (g:AV) (sl:SL):step51 52 8 (L7 l u0 u1 u2 u3 u4 hi lo g) sl=whichT u0 (fun r=>.ret (.nxt,L8 l u0 u1 u2 u3 u4 hi lo r.1 r.2.1 (r.2.2.1:Nat) (r.2.2.2.1:Nat) (r.2.2.2.2:Nat),sl)) 0 rowsX:=by kernel_rfl
def L9 (l:List Int) (u0 u1 u2 u3 u4 hi lo:Int) (n f:Str) (x y z:Int):AEnv:=("known",.loc 2) :: L8 l u0 u1 u2 u3 u4 hi lo n f x y z
def kn9 (x y z hi lo:Int):AV:=knownA x y z (lo.fmod 32) (hi.fmod 32) ((lo.fdiv 32).fmod 32) hi
theorem s51_9 (l:List Int) (u0 u1 u2 u3 u4 hi lo:Int) (n f:Str) (x y z:Int) (W P:AV):step51 51 9 (L8 l u0 u1 u2 u3 u4 hi lo n f x y z) [.own W,.own P]=.ret (.nxt,L9 l u0 u1 u2 u3 u4 hi lo n f x y z,[.own W,.own P,.own (kn9 x y z hi lo)]):=by kernel_rfl
def lay3 (f:Str) (x y z:Int):R AV:=laidX ([drF f,xyzA x y z].map sy)
def cel9 (f:Str) (x y z hi lo:Int):R AV:=laidX ([drF f,kn9 x y z hi lo].map sy)
def cellsA (f:Str) (x y z hi lo:Int):AV:=.lst [.sym (valI (cel9 f x y z hi lo)),.sym (valI (lay3 "F" 15 0 0)),.sym (valI (lay3 "E" 115 0 0)),.sym (valI (lay3 "E" 115 0 8192))]
def L10 (l:List Int) (u0 u1 u2 u3 u4 hi lo:Int) (n f:Str) (x y z:Int):AEnv:=("cells",cellsA f x y z hi lo) :: L9 l u0 u1 u2 u3 u4 hi lo n f x y z
theorem s51_10 (l:List Int) (u0 u1 u2 u3 u4 hi lo:Int) (n:Str) (x y z:Int) (W:AV):∀ f∈formsL,step51 50 10 (L9 l u0 u1 u2 u3 u4 hi lo n f x y z) [.own W,.own picsV,.own (kn9 x y z hi lo)] =
  .need (okI (cel9 f x y z hi lo)) (.need (okI (lay3 "F" 15 0 0)) (.need (okI (lay3 "E" 115 0 0)) (.need (okI (lay3 "E" 115 0 8192)) (.ret (.nxt,L10 l u0 u1 u2 u3 u4 hi lo n f x y z,[.own W,.own picsV,.frz (kn9 x y z hi lo)]))))):=
 by9 (by kernel_rfl) (by kernel_rfl) (by kernel_rfl) (by kernel_rfl) (by kernel_rfl) (by kernel_rfl) (by kernel_rfl) (by kernel_rfl) (by kernel_rfl)
def TP (N:Int):Prop:=v_BYOP=v_BYOP∧picsV=picsV∧0≤N∧N<4294967296
theorem s51_11 (l:List Int) (u0 u1 u2 u3 u4 hi lo:Int) (n f:Str) (x y z:Int) (W:AV) (k:AV):evalS c36 5 (scopeAt 51) 50 (L10 l u0 u1 u2 u3 u4 hi lo n f x y z) [stAt (bodyAt 51) 11] [.own W,.own picsV,.frz k] =
  .need (TP (valI (cel9 f x y z hi lo))) (.need (TP (valI (lay3 "F" 15 0 0))) (.need (TP (valI (lay3 "E" 115 0 0))) (.need (TP (valI (lay3 "E" 115 0 8192))) (.ret (.ret (.bool true),L10 l u0 u1 u2 u3 u4 hi lo n f x y z,[.own W,.frz picsV,.frz k]))))):=by kernel_rfl
theorem body51:bodyAt 51=[stAt (bodyAt 51) 0,stAt (bodyAt 51) 1,stAt (bodyAt 51) 2,stAt (bodyAt 51) 3,stAt (bodyAt 51) 4,stAt (bodyAt 51) 5,stAt (bodyAt 51) 6,.For f51.1 f51.2.1 b51 [] f51.2.2.2,stAt (bodyAt 51) 8,stAt (bodyAt 51) 9,stAt (bodyAt 51) 10,stAt (bodyAt 51) 11]:=by kernel_rfl
end
end Mine
end
section
open PySem.SeqAt MineH
namespace Mine
section
variable {prog:Program} {w:World} {h:Heap}
theorem turnF_hx {l:List Int} {u0 u1 u2 u3 u4 hi lo:Int} {f:Str} {i:Nat} {a j:Int} (hf:f∈formsL) (h1:0≤a∧a<990) (h2:l.length<1000) (h3:0≤j∧j<2147483648) {P:Fl×AEnv×SL→Prop}
  (hP:∀ a' j',(a≤a'∧a'≤a+4)→(0≤j'∧j'<2147483648)→P (.nxt,L7 l u0 u1 u2 u3 u4 hi lo (.str f),slP l a' j' (i+1))):HX (turnF l u0 u1 u2 u3 u4 hi lo f i a j) P False:=by
 have j1:=drawS_lt l a j h3
 have j2:=drawS_lt l (a+1) _ j1
 have j3:=drawS_lt l (a+1+1) _ j2
 have j4:=drawS_lt l (a+1+1+1) _ j3
 have r:=hP (nextA f a) (nextJ f l a j) (by unfold nextA; cases memS f immForms<;>dsimp only<;>omega) (by unfold nextJ; cases memS f immForms<;>assumption)
 refine hx_need ⟨hf,rfl,rfl,h1,h2,h3⟩ ?_
 generalize memS f immForms=b
 cases b with
 | true=>exact hx_ite (fun e=>absurd e (by decide)) fun _=>hx_ret r
 | false=>exact hx_ret r
theorem noN_ok:∀ k:Nat,k<6→memS (nthStr noN k) instrK=false∧(nthStr noN k).length≤1000:=by decide +kernel
theorem refN_ok {k:Int} (hk:0≤k∧k<6):okB (refN k)∧valB (refN k)=true:=by
 obtain ⟨j,rfl⟩:=Int.eq_ofNat_of_zero_le hk.1
 have q:=noN_ok j (by omega)
 have e:refN (j:Int)=refX [.str (nthStr noN j),.dS ["rd","rs1","imm"] [.sym 1,.sym 1,.sym 0]]:=rfl
 rw [e]
 exact ref_exc (enc_none q.1 q.2)
theorem cel_eq (x y z hi lo:Int):∀ f∈formsL,cel9 f x y z hi lo=laidX [drF f,known7 x y z (lo.fmod 32) (hi.fmod 32) ((lo.fdiv 32).fmod 32) hi]:=
 by9 (by kernel_rfl) (by kernel_rfl) (by kernel_rfl) (by kernel_rfl) (by kernel_rfl) (by kernel_rfl) (by kernel_rfl) (by kernel_rfl) (by kernel_rfl)
theorem lay_ok {R':R AV} {k:Nat} {L:List (Int×Nat)} (e:R'=layF k 0 L) (hl:L.length=32):okI R'∧TP (valI R'):=by
 have h:=okI_sym (x:=R') (i:=lay 0 L) (by rw [e]; exact layF_hx k L 0 0 (by decide) (by decide) (by rw [hl]; decide))
 have r:=lay_range L 0 0 (by decide) (by decide)
 rw [hl] at r
 refine ⟨h.1,rfl,rfl,?_⟩
 rw [h.2]
 exact r
theorem cel_ok (x y z hi lo:Int) {f:Str} (hf:f∈formsL):okI (cel9 f x y z hi lo)∧TP (valI (cel9 f x y z hi lo)):=
 lay_ok ((cel_eq x y z hi lo f hf).trans (laid7 _ _ _ _ _ _ _ f hf)) (layL_len _ _ _ _ _ _ _ f hf)
theorem lay3_eq (x y z:Int):∀ f∈(["F","E"]:List Str),lay3 f x y z=laidX [drF f,.dS ["x","y","z"] [.sym x,.sym y,.sym z]]:=by
 intro f hf
 simp only [List.mem_cons,List.not_mem_nil,or_false] at hf
 rcases hf with q | q<;>rw [q]<;>kernel_rfl
theorem lay3_ok (x y z:Int) {f:Str} (hf:f∈(["F","E"]:List Str)) (hf':f∈formsL):okI (lay3 f x y z)∧TP (valI (lay3 f x y z)):=
 lay_ok ((lay3_eq x y z f hf).trans (laid3 x y z f hf)) (layL_len _ _ _ _ _ _ _ f hf')
def itemsP:List AV:=[.str "R",.str "I",.str "H",.str "S",.str "B",.str "U",.str "J",.str "F",.str "E"]
def rest51:List Stmt:=[stAt (bodyAt 51) 1,stAt (bodyAt 51) 2,stAt (bodyAt 51) 3,stAt (bodyAt 51) 4,stAt (bodyAt 51) 5,stAt (bodyAt 51) 6,.For f51.1 f51.2.1 b51 [] f51.2.2.2,stAt (bodyAt 51) 8,stAt (bodyAt 51) 9,stAt (bodyAt 51) 10,stAt (bodyAt 51) 11]
theorem rowsX_len:rowsX.length=48:=by decide +kernel
theorem fms:("R" : Str)∈formsL∧("I" : Str)∈formsL∧("H" : Str)∈formsL∧("S" : Str)∈formsL∧("B" : Str)∈formsL∧("U" : Str)∈formsL∧("J" : Str)∈formsL∧("F" : Str)∈formsL∧("E" : Str)∈formsL:=by decide +kernel
theorem law_rest {l:List Int} (hl:l.length<1000):HX (evalS c36 5 (scopeAt 51) 60 (L0 l) rest51 []) (fun p=>∃ env sl,p=(.ret (.bool true),env,sl)) False:=by
 have sd:0≤seed l∧seed l<2147483648:=by
  unfold seed
  have:=fm_range l.sum (show (0:Int)<65537 by decide)
  omega
 refine cons_of (hx_eq (s51_1 l) (hx_ret (next_of ?_)))
 generalize seed l=s0 at *
 refine cons_of (hx_eq (s51_2 l s0) (hx_need ⟨⟨by decide,by decide,hl,sd⟩,.inr (.inr rfl),fun n hn=>?_⟩ ?_))
 ·simp only [List.mem_cons,List.not_mem_nil,or_false] at hn
  rcases hn with q | q | q | q | q<;>subst q<;>decide
 unfold dr5
 refine hx_ret (next_of ?_)
 have s1:=drawS_lt l 0 s0 sd
 have w0:=fm_range (drawV l 0 s0) (show (0:Int)<48 by decide)
 have w1:=fm_range ((drawV l 0 s0).fdiv 48) (show (0:Int)<32 by decide)
 have w2:=fm_range (((drawV l 0 s0).fdiv 48).fdiv 32) (show (0:Int)<32 by decide)
 have w3:=fm_range ((((drawV l 0 s0).fdiv 48).fdiv 32).fdiv 32) (show (0:Int)<14 by decide)
 have w4:=fm_range (((((drawV l 0 s0).fdiv 48).fdiv 32).fdiv 32).fdiv 14) (show (0:Int)<6 by decide)
 generalize (drawV l 0 s0).fmod 48=u0 at *
 generalize ((drawV l 0 s0).fdiv 48).fmod 32=u1 at *
 generalize (((drawV l 0 s0).fdiv 48).fdiv 32).fmod 32=u2 at *
 generalize ((((drawV l 0 s0).fdiv 48).fdiv 32).fdiv 32).fmod 14=u3 at *
 generalize (((((drawV l 0 s0).fdiv 48).fdiv 32).fdiv 32).fdiv 14).fmod 6=u4 at *
 generalize drawS l 0 s0=t1 at *
 have s2:=drawS_lt l (0+1) t1 s1
 have s3:=drawS_lt l (0+1+1) _ s2
 refine cons_of (hx_eq (s51_3 l u0 u1 u2 u3 u4 (0+1) t1) (hx_need (drawP1 ⟨by decide,by decide,hl,s1⟩) (hx_need (drawP1 ⟨by decide,by decide,hl,s2⟩) (hx_ret (next_of ?_)))))
 have v1:=fm_range (drawV l (0+1) t1) (show (0:Int)<Mx by decide)
 have v2:=fm_range (drawV l (0+1+1) (drawS l (0+1) t1)) (show (0:Int)<Mx by decide)
 generalize (drawV l (0+1) t1).fmod Mx=hi at *
 generalize (drawV l (0+1+1) (drawS l (0+1) t1)).fmod Mx=lo at *
 have v1:0≤hi∧hi<2147483647:=v1
 have v2:0≤lo∧lo<2147483647:=v2
 generalize ha:(0+1+1+1:Int)=a0 at *
 have ha:a0=3:=ha.symm
 generalize drawS l (0+1+1) (drawS l (0+1) t1)=j0 at *
 refine cons_of (hx_eq (s51_4 l u0 u1 u2 u3 u4 hi lo _) (hx_need (by omega) (hx_need (by omega) (hx_need (fun _=>⟨by omega,by omega,by omega,trivial⟩) (hx_ite (fun e=>absurd e (by decide)) fun _=>hx_ret (next_of ?_))))))
 have rn:=refN_ok w4
 refine cons_of (hx_eq (s51_5 l u0 u1 u2 u3 u4 hi lo _) (hx_need w3 (hx_need (fun _=>⟨w4,rn.1,trivial⟩) (hx_ite (fun e=>?_) fun _=>hx_ret (next_of ?_)))))
 ·rw [rn.2] at e; exact absurd e (by decide)
 refine cons_of (hx_eq (s51_6 l u0 u1 u2 u3 u4 hi lo _) (hx_need rfl (hx_ret (next_of ?_))))
 refine cons_of (for_of (v:=v_P) (items:=itemsP) (by kernel_rfl) (iter51 l u0 u1 u2 u3 u4 hi lo _) (by kernel_rfl) (by kernel_rfl) ?_)
 obtain ⟨f0,f1,f2,f3,f4,f5,f6,f7,f8⟩:=fms
 refine turn_of (bind51 l u0 u1 u2 u3 u4 hi lo _) (hx_eq (turn_R l u0 u1 u2 u3 u4 hi lo a0 j0) (turnF_hx f0 (by omega) hl s3 fun a1 j1 ha1 hj1=>after_of ?_))
 refine turn_of (bind51' l u0 u1 u2 u3 u4 hi lo _ _) (hx_eq (turn_I l u0 u1 u2 u3 u4 hi lo a1 j1) (turnF_hx f1 (by omega) hl hj1 fun a2 j2 ha2 hj2=>after_of ?_))
 refine turn_of (bind51' l u0 u1 u2 u3 u4 hi lo _ _) (hx_eq (turn_H l u0 u1 u2 u3 u4 hi lo a2 j2) (turnF_hx f2 (by omega) hl hj2 fun a3 j3 ha3 hj3=>after_of ?_))
 refine turn_of (bind51' l u0 u1 u2 u3 u4 hi lo _ _) (hx_eq (turn_S l u0 u1 u2 u3 u4 hi lo a3 j3) (turnF_hx f3 (by omega) hl hj3 fun a4 j4 ha4 hj4=>after_of ?_))
 refine turn_of (bind51' l u0 u1 u2 u3 u4 hi lo _ _) (hx_eq (turn_B l u0 u1 u2 u3 u4 hi lo a4 j4) (turnF_hx f4 (by omega) hl hj4 fun a5 j5 ha5 hj5=>after_of ?_))
 refine turn_of (bind51' l u0 u1 u2 u3 u4 hi lo _ _) (hx_eq (turn_U l u0 u1 u2 u3 u4 hi lo a5 j5) (turnF_hx f5 (by omega) hl hj5 fun a6 j6 ha6 hj6=>after_of ?_))
 refine turn_of (bind51' l u0 u1 u2 u3 u4 hi lo _ _) (hx_eq (turn_J l u0 u1 u2 u3 u4 hi lo a6 j6) (turnF_hx f6 (by omega) hl hj6 fun a7 j7 ha7 hj7=>after_of ?_))
 refine turn_of (bind51' l u0 u1 u2 u3 u4 hi lo _ _) (hx_eq (turn_F l u0 u1 u2 u3 u4 hi lo a7 j7) (turnF_hx f7 (by omega) hl hj7 fun a8 j8 ha8 hj8=>after_of ?_))
 refine turn_of (bind51' l u0 u1 u2 u3 u4 hi lo _ _) (hx_eq (turn_E l u0 u1 u2 u3 u4 hi lo a8 j8) (turnF_hx f8 (by omega) hl hj8 fun a9 j9 ha9 hj9=>after_of ?_))
 refine hx_ret (next_of ?_)
 refine cons_of (hx_eq (s51_8 l u0 u1 u2 u3 u4 hi lo _ _) (whichT_hx ⟨by omega,by rw [rowsX_len]; omega⟩ fun r hr=>hx_ret (next_of ?_)))
 obtain ⟨n,f,x,y,z⟩:=r
 have hf:=(rows_ok hr).form
 refine cons_of (hx_eq (s51_9 l u0 u1 u2 u3 u4 hi lo n f x y z _ _) (hx_ret (next_of ?_)))
 have c1:=cel_ok x y z hi lo hf
 have c2:=lay3_ok 15 0 0 (f := "F") (by simp) f7
 have c3:=lay3_ok 115 0 0 (f := "E") (by simp) f8
 have c4:=lay3_ok 115 0 8192 (f := "E") (by simp) f8
 refine cons_of (hx_eq (s51_10 l u0 u1 u2 u3 u4 hi lo n x y z _ f hf) (hx_need c1.1 (hx_need c2.1 (hx_need c3.1 (hx_need c4.1 (hx_ret (next_of ?_)))))))
 exact hx_eq (s51_11 l u0 u1 u2 u3 u4 hi lo n f x y z _ _) (hx_need c1.2 (hx_need c2.2 (hx_need c3.2 (hx_need c4.2 (hx_ret ⟨_,_,rfl⟩)))))
end
end Mine
end
section
open PySem.SeqAt MineH
namespace Mine
section
variable {prog:Program} {w:World} {h:Heap}
abbrev sc51:PySem.Scope:=scopeAt 51
abbrev env51 (L a:Addr) (cd:Value):Env:=envOfC "law" sc51 L a cd
def fr51 (L a:Addr) (cd:Value) (G:Heap):Frm:={ env:=env51 L a cd,X:=fun _=>False,base:=G,fr:=fun _=>False,frX:=fun _ h=>h }
theorem inv_start {G:Heap} (hG:∃ o,G.get? sysModules=some o) {L a:Addr} {cd:Value} (hL:L=G.objs.size) {h:Heap} {m:Str→Option Value} (F:Fr G L h m) {nl:List (Addr×Obj)} (N:News G L h nl)
  (hc:∀ x c,(x,c)∈cellsFrom (L+1) sc51.names []→∃ o v,(c,o)∈nl∧o.data=.cell v) {env:AEnv}
  (hk:∀ x av,env.lookup x=some av→(env51 L a cd).kindOf x=some .local∧∃ v,m x=some v∧Has prog w (Vw (fr51 L a cd G) [] [] h) [] av v) {s:Shared} (hs:s.heap=h) :
  Inv prog w (fr51 L a cd G) env [] [] s:=by
 subst hs
 have noOwn:∀ b,¬ OwnA [] [] b:=fun b ⟨n,c,h,_⟩=>by simp at h
 refine ⟨F.keep,hG,fun b hb=>?_,⟨m,F.ns,fun x av e k=>(hk x av e).2⟩,fun x av e k=>?_,fun x av e=>.inl (hk x av e).1,fun x c e=>?_,rfl,fun n b σ e _=>(by simp at e),fun n m b c c' h=>(by simp at h),fun b hb=>(noOwn b hb).elim,⟨fun q=>q,fun x c e q=>q⟩,fun b hb=>hb.elim⟩
 ·rcases hb with hb | hb | ⟨x,hb⟩ | hb
  ·exact hb.elim
  ·have hb:b=L:=hb
   obtain ⟨o,_,_,e,_⟩:=F.ns
   rw [hb]
   exact ⟨by rw [hL]; exact get_size G,o,e⟩
  ·obtain ⟨o,v,hn,_⟩:=hc x b hb
   obtain ⟨z1,z2,z3⟩:=N _ hn
   exact ⟨z3,o,z1⟩
  ·exact (noOwn b hb).elim
 ·have q:=(hk x av e).1
  have k:(env51 L a cd).kindOf x=some .cell∨(env51 L a cd).kindOf x=some .free:=k
  rw [q] at k
  rcases k with k | k<;>cases k
 ·obtain ⟨o,v,hn,hd⟩:=hc x c e
  obtain ⟨z1,z2,z3⟩:=N _ hn
  exact ⟨⟨v,o,z1,hd⟩,z2⟩
theorem cells51 (L:Addr):cellsFrom (L+1) sc51.names []=([("form",L+1+1+1+1),("known_rows",L+1+1+1),("pictures",L+1+1),("first",L+1)]:List (Str×Addr)):=by kernel_rfl
theorem nat_apart {L i j:Nat} (h:L+i=L+j) (hn:i≠j):False:=hn (Nat.add_left_cancel h)
theorem st51 (L a:Addr) (cd:Value) (G:Heap):StOK (fr51 L a cd G):=by
 refine ⟨by kernel_rfl,fun x y c h1 h2=>?_,fun x hx=>?_⟩
 ·have h1:(cellsFrom (L+1) sc51.names []).lookup x=some c:=h1
  have h2:(cellsFrom (L+1) sc51.names []).lookup y=some c:=h2
  rw [cells51] at h1 h2
  have m1:=mem_of_lookup h1
  have m2:=mem_of_lookup h2
  simp only [List.mem_cons,Prod.mk.injEq,List.not_mem_nil,or_false] at m1 m2
  rcases m1 with ⟨p,q⟩ | ⟨p,q⟩ | ⟨p,q⟩ | ⟨p,q⟩<;>rcases m2 with ⟨p',q'⟩ | ⟨p',q'⟩ | ⟨p',q'⟩ | ⟨p',q'⟩<;>first
   | exact p.trans p'.symm
   | exact (nat_apart (L:=L) (i:=4) (j:=3) (q.symm.trans q') (by decide)).elim
   | exact (nat_apart (L:=L) (i:=4) (j:=2) (q.symm.trans q') (by decide)).elim
   | exact (nat_apart (L:=L) (i:=4) (j:=1) (q.symm.trans q') (by decide)).elim
   | exact (nat_apart (L:=L) (i:=3) (j:=4) (q.symm.trans q') (by decide)).elim
   | exact (nat_apart (L:=L) (i:=3) (j:=2) (q.symm.trans q') (by decide)).elim
   | exact (nat_apart (L:=L) (i:=3) (j:=1) (q.symm.trans q') (by decide)).elim
   | exact (nat_apart (L:=L) (i:=2) (j:=4) (q.symm.trans q') (by decide)).elim
   | exact (nat_apart (L:=L) (i:=2) (j:=3) (q.symm.trans q') (by decide)).elim
   | exact (nat_apart (L:=L) (i:=2) (j:=1) (q.symm.trans q') (by decide)).elim
   | exact (nat_apart (L:=L) (i:=1) (j:=4) (q.symm.trans q') (by decide)).elim
   | exact (nat_apart (L:=L) (i:=1) (j:=3) (q.symm.trans q') (by decide)).elim
   | exact (nat_apart (L:=L) (i:=1) (j:=2) (q.symm.trans q') (by decide)).elim
 ·have hx:sc51.names.lookup x=some .cell∨sc51.names.lookup x=some .free:=hx
  have key:∀ y∈sc51.names,y.2≠.free∧(y.2=.cell→y.1 = "form" ∨ y.1 = "known_rows" ∨ y.1 = "pictures" ∨ y.1 = "first"):=by decide +kernel
  have hm:x = "form" ∨ x = "known_rows" ∨ x = "pictures" ∨ x = "first" := by
   rcases hx with hx | hx
   ·exact (key _ (mem_of_lookup hx)).2 rfl
   ·exact absurd rfl (key _ (mem_of_lookup hx)).1
  show ∃ c,(cellsFrom (L+1) sc51.names []).lookup x=some c
  rw [cells51]
  rcases hm with q | q | q | q<;>subst q
  ·exact ⟨L+1+1+1+1,by kernel_rfl⟩
  ·exact ⟨L+1+1+1,by kernel_rfl⟩
  ·exact ⟨L+1+1,by kernel_rfl⟩
  ·exact ⟨L+1,by kernel_rfl⟩
theorem frm51 (L a:Addr) (cd:Value) (G:Heap):FrmOK (fr51 L a cd G) (callerA.deeper (env51 L a cd)):=by
 refine ⟨by kernel_rfl,rfl,rfl,[env51 L a cd],rfl,fun e he=>?_⟩
 simp only [List.mem_cons,List.not_mem_nil,or_false] at he
 subst he
 exact ⟨by show sc51.kind≠_; rw [show sc51.kind=.function by kernel_rfl]; decide,L,rfl,.inr rfl⟩
theorem room51 (L a:Addr) (cd:Value):Room (callerA.deeper (env51 L a cd)) 5:=⟨by show 1+claimMargin+1+5<_; decide +kernel,by show 4+3+100*5+200<_; decide +kernel,rfl⟩
def stA:Stmt:=stAt (bodyAt 51) 0
def lcE:Expr:=match stA with | .Assign _ v _=>v | _=>.Name "" ⟨0,0,0,0⟩
def scC:PySem.Scope:=match lcE with | .ListComp _ _ s _=>s | _=>sc51
theorem stA_eq:stA=.Assign [.Name "numbers" ⟨253,4,253,11⟩] (.ListComp (.BinOp (.Name "value" ⟨253,15,253,20⟩) .Mod (.Constant (.int (Int.ofNat 2147483647)) 0 ⟨253,23,253,33⟩) ⟨253,15,253,33⟩)
  [⟨.Name "value" ⟨253,38,253,43⟩,.Subscript (.Name "script" ⟨253,47,253,53⟩) (.Slice none (some (.Constant (.int (Int.ofNat 24)) 0 ⟨253,55,253,57⟩)) none ⟨253,54,253,57⟩) ⟨253,47,253,58⟩,[],0⟩] scC ⟨253,14,253,59⟩) ⟨253,4,253,59⟩:=by kernel_rfl
def numL (ns:List Int):List Int:=(ns.take 24).map fun i=>i.fmod 2147483647
theorem carried_ints:∀ {ys:List Value} {ns:List Int},CarriedAll ys (ns.map fun i=>.int (i.fmod 2147483647))→IntsA (ns.map fun i=>i.fmod 2147483647) ys
 | [],[],_=>rfl
 | y :: ys,n :: ns,h=>by
  cases h with
  | cons h1 h2=>
   cases h1 with
   | int i t=>exact ⟨t,ys,rfl,carried_ints h2⟩
theorem first_ok {G:Heap} {L a ax:Addr} {cd:Value} {h₁:Heap} {m:Str→Option Value} (F:Fr G L h₁ m) (hm:m "script" = some (.ref ax)) {nl:List (Addr×Obj)} (N:News G L h₁ nl) {vs:List Value} (hl:G.IsList ax vs.toArray) {ns:List Int} (hi:IntsAre vs ns) (hn:ns.length≤63)
  {g:Array GenState} {d:Drawn} {tk:Nat} {os:OsState} {Q:Flow→Shared→Prop} {E:Value→Shared→Prop}
  (hQ:∀ D ys h' tk',Fr G L h' (fun z=>if z = "numbers" then some (.ref D) else m z)→News G L h' nl→G.get? D=none→NewPlain h' nl D ys.toArray→IntsA (numL ns) ys→Q .next ⟨h',g,d,tk',os⟩) :
  wpAny (model prog w) (callerA.deeper (env51 L a cd)) (exec stA (env51 L a cd)) Q E ⟨h₁,g,d,tk,os⟩:=by
 rw [stA_eq]
 have kS:(env51 L a cd).kindOf "script" = some .local:=by kernel_rfl
 have hk:sc51.kind=.function:=by kernel_rfl
 refine Assign_ListComp_DCn (K:=.int) (pz:=fun _=>true) (d:=fun i=>.int (i.fmod 2147483647)) (h₀:=G) (L:=L) (m:=m) (cl:=[]) (by kernel_rfl) rfl rfl (by kernel_rfl) (by decide +kernel) (by kernel_rfl) (by decide +kernel) (by kernel_rfl) (by kernel_rfl) (by kernel_rfl) ?_ (fun _=>rfl)
 refine Subscript_ (wpAny_Name (wpAny_loadName_local hk kS F.ns hm ?_) (by decide +kernel))
 have len:vs.length=ns.length:=hi.length
 have kC:(compEnvC scC [] 0 (env51 L a cd)).scope.kind=.function:=by kernel_rfl
 refine wpAny_Slice (wpAny_pure (wpAny_Constant_int (k:=0) (pos:=⟨253,55,253,57⟩) (wpAny_pure ?_)))
 let s₂:Shared:=⟨h₁.push { cls:=.type "slice",data:=.fields #[.none,.int (Int.ofNat 24) tk,.none] },g,d,tk+1,os⟩
 have k₂:∀ b o,h₁.get? b=some o→s₂.heap.get? b=some o:=fun b o e=>Heap.get?_push_of_some _ e
 have hl₂:s₂.heap.IsList ax vs.toArray:=by
  obtain ⟨o,e,r⟩:=hl
  exact ⟨o,k₂ _ _ (F.keep _ _ e),r⟩
 refine tail_any (T := "list") hl₂.typeIs PySem.F.slot_list_getitem.lookup (wpAny_getItem_list_slice hl₂ (Heap.IsSliceOf.new ..) .none (.int _ _) .none (by simp) ?_ (by rw [List.size_toArray,len]; exact size_line (by omega))) rfl
 rw [show (Int.ofNat 24)=((24:Nat):Int) from rfl,slicePick_upto']
 have take:IntsAre (vs.take 24) (ns.take 24):=by
  have:∀ {vs:List Value} {ns:List Int} (n:Nat),IntsAre vs ns→IntsAre (vs.take n) (ns.take n):=by
   intro vs ns n hh
   induction hh generalizing n with
   | nil=>simpa using IntsAre.nil
   | cons i t h ih=>
    cases n with
    | zero=>simpa using IntsAre.nil
    | succ n=>exact .cons i t (ih n)
  exact this 24 hi
 generalize hH:s₂.heap.push _=H
 have k₃:∀ b o,h₁.get? b=some o→H.get? b=some o:=fun b o e=>by rw [← hH]; exact Heap.get?_push_of_some _ (k₂ b o e)
 refine ⟨nl,_,vs.take 24,ns.take 24,rfl,?_,take.areOf,?_,⟨F.ns.keeps k₃,fun b o e=>k₃ b o (F.keep b o e),F.above⟩,fun p hp=>⟨k₃ _ _ (N p hp).1,(N p hp).2⟩,?_,?_,?_⟩
 ·rw [← hH]
  exact ⟨_,Heap.get?_push_size _ rfl,rfl,0,rfl⟩
 ·exact size_line (by rw [List.length_take]; omega)
 ·intro C b v s₃ m₃ E' _ _ _ _ _ _
  exact wpAny_pure ⟨rfl,s₃.heap,s₃.toks,rfl,fun _ _ e=>e⟩
 ·intro C b v s₃ m₃ E' _ _ hv _ hns hmv _
  obtain ⟨t,rfl⟩:=hv
  have kV:(compEnvC scC [] C (env51 L a cd)).kindOf "value" = some .local:=by kernel_rfl
  have kF:(compEnvC scC [] C (env51 L a cd)).scope.kind=.function:=by kernel_rfl
  refine wpAny_BinOp (wpAny_Name (wpAny_loadName_local kF kV hns hmv ?_) (by decide +kernel))
  refine wpAny_Constant_int (PyProof.Rows.mod_int (by decide) ?_)
  exact ⟨.int _ _,s₃.heap,_,rfl,fun _ _ e=>e⟩
 ·intro D ys h' tk' F' N' hD _ hP hc
  refine hQ D ys h' _ F' N' hD hP (carried_ints ?_)
  rw [List.filter_eq_self.mpr (fun _ _=>rfl)] at hc
  exact hc
theorem law_core {G:Heap} (X:(Kx w.params).In G) (lim:G.NoLimit) {L a ax:Addr} (hL:L=G.objs.size) {cd:Value} {h₁:Heap} {m:Str→Option Value} (F:Fr G L h₁ m) (hm:m "script" = some (.ref ax)) {nl:List (Addr×Obj)} (N:News G L h₁ nl)
  (hc:∀ x c,(x,c)∈cellsFrom (L+1) sc51.names []→∃ o v,(c,o)∈nl∧o.data=.cell v) {vs:List Value} (hl:G.IsList ax vs.toArray) {ns:List Int} (hi:IntsAre vs ns) (hn:ns.length≤63)
  {g:Array GenState} {d:Drawn} {tk:Nat} {os:OsState} {Q:Flow→Shared→Prop} {E:Value→Shared→Prop}
  (hQ:∀ h' d' tk',(∀ b o,G.get? b=some o→h'.get? b=some o)→Q (.ret (.bool true)) ⟨h',g,d',tk',os⟩) :
  wpAny (model prog w) (callerA.deeper (env51 L a cd)) (execs (bodyAt 51) (env51 L a cd)) Q E ⟨h₁,g,d,tk,os⟩:=by
 have sm:∃ o,G.get? sysModules=some o:=sm_at X
 rw [body51]
 refine wpAny_execs_cons (first_ok F hm N hl hi hn fun D ys h' tk' F' N' hD hP hys=>?_)
 obtain ⟨⟨k,hPl⟩,hne⟩:=hP
 have hDL:D≠L:=fun q=>by
  obtain ⟨o,es,ep,e,dd,_⟩:=F'.ns
  rw [q,e] at hPl
  injection hPl with hPl
  rw [hPl] at dd
  exact nomatch dd
 have hv:Has prog w (Vw (fr51 L a cd G) [] [] h') [] (.ints (numL ns)) (.ref D):=by
  refine ⟨D,ys,k,rfl,⟨hPl,fun q=>?_,?_⟩,hys⟩
  ·rcases q with q | q | ⟨x,q⟩ | ⟨n,c,q,_⟩
   ·exact q
   ·exact hDL q
   ·obtain ⟨o,v,hin,_⟩:=hc x D q
    exact hne _ hin rfl
   ·simp at q
  ·obtain ⟨o,e⟩:=sm
   exact beq_eq_false_iff_ne.mpr fun q=>by rw [q,e] at hD; cases hD
 have I:=inv_start (prog:=prog) (w:=w) (a:=a) (cd:=cd) sm hL F' N' hc (env:=L0 (numL ns)) (fun x av e=>by
  unfold L0 at e
  rw [List.lookup_cons] at e
  split at e
  ·rename_i q
   injection e with e
   subst e
   have q:=eq_of_beq q
   subst q
   exact ⟨by kernel_rfl,.ref D,by simp,hv⟩
  ·cases e) (s:=⟨h',g,d,tk',os⟩) rfl
 have len:(numL ns).length<1000:=by
  unfold numL
  rw [List.length_map,List.length_take]; omega
 have R:=(law_rest len).out
 refine evalS_ok (EO:=fun _ _=>False) (gok36 X lim) (room51 L a cd) 60 (fr51 L a cd G) rfl (frm51 L a cd G) (st51 L a cd G) (excOK_none rfl) rest51 (L0 (numL ns)) [] [] _ I _ False _ _ R (fun f s' hq=>?_) (fun hx=>hx.elim)
 obtain ⟨fl,env',sl',ρ',I',ev,hf,env'',sl'',hp⟩:=hq
 have hfl:fl=.ret (.bool true):=congrArg (·.1) hp
 subst hfl
 obtain ⟨v,hf,hv'⟩:=hf
 have hv':v=.bool true:=hv'
 subst hf hv'
 obtain ⟨hh,gg,dd,tt,oo⟩:=s'
 have e1:gg=g:=ev.gens
 have e3:oo=os:=ev.os
 subst e1 e3
 exact hQ hh dd tt I'.base
end
end Mine
end
section
open PySem.SeqAt MineH
namespace Mine
theorem bodies:dLaw.body=bodyAt 51∧dLaw.scope=sc51∧dLaw.name=("law" : Str):=⟨by kernel_rfl,by kernel_rfl,by kernel_rfl⟩
theorem law_all:rwl.Holds:=hd (by
 k_go0
 rename_i w0 s0 s1 mg mb G0 Y fa o pm doc ho hg KX X V GL T B TE TW w11 o12 M a11 a10 hcd ns hs hlay0 hL1 hr1 hl2 as8 as7 ax vs as4 hL ra w1 r0 hI hr2 hcond hcond' K0 hD h1 tk F c3 c2 c1 c0 l2 l1 l0 r N X0
 have hm:=F
 have lim:=T.nolimit
 clear X0 hD K0 hr2 r0 w1 ra hl2 hr1 hL1 hlay0 hs hcd M TW TE B T GL V X Y
 obtain ⟨b1,b2,b3⟩:=bodies
 have hc:∀ x c,(x,c)∈cellsFrom (s1.heap.objs.size+1) sc51.names []→∃ o v,(c,o)∈[(s1.heap.objs.size+1+1+1+1,c3),(s1.heap.objs.size+1+1+1,c2),(s1.heap.objs.size+1+1,c1),(s1.heap.objs.size+1,c0)]∧o.data=.cell v:=fun x c hx=>by
  rw [cells51] at hx
  simp only [List.mem_cons,Prod.mk.injEq,List.not_mem_nil,or_false] at hx
  rcases hx with ⟨_,q⟩ | ⟨_,q⟩ | ⟨_,q⟩ | ⟨_,q⟩
  ·exact ⟨c3,_,by rw [q]; simp,l2⟩
  ·exact ⟨c2,_,by rw [q]; simp,l1⟩
  ·exact ⟨c1,_,by rw [q]; simp,l0⟩
  ·exact ⟨c0,_,by rw [q]; simp,r⟩
 rw [b1,b2,b3]
 refine law_core KX lim rfl F ?_ N hc hL hI (by omega) (fun h' d' tk' keep=>?_)
 ·kernel_rfl
 ·exact ⟨.inl ⟨.bool true,.bool true,[],rfl,fun cls=>by kernel_rfl,.bool true,by kernel_rfl,fun _=>⟨List.nodup_nil,fun _ hm=>(nomatch hm)⟩⟩,keep,rfl,hg⟩)
end Mine
end
end
theorem PySem.Challenge.cw_nm0009_01_holds : PySem.Challenge.rw_nm0009_01.Holds :=
  Mine.law_all
