import PyProof.Rows.All
import Wide.All
import OpenK.AllK
import Wide.FinOn
import KE.LcSums
import KE.KDictLaws
import KE.KRevSl
import KE.KIntText
import KE.KUnpack
import KE.KItem
import OpenK.KMore
import PyProof.InstStoreFacts
import PyProof.ExcInit
import PyProof.ExcBaseAll.Exception
import OpenK.KRaise
import PyProof.StationsW
import PySem.Challenge.RW_nm0009_01
set_option Elab.async false
set_option maxRecDepth 100000
set_option maxHeartbeats 0
open PySem PySem.W PyProof.Rows PySem.Calls
noncomputable section
section
namespace Mine
section
theorem A0 {C:Prop} {α:Type} {x:α} (h:none=some x):C:=nomatch h
theorem ob02 {P0 P1:Prop} {C:Prop} (h:P0∧P1) (k:P0→P1→C):C:=k h.1 h.2
theorem ob03 {P0 P1 P2:Prop} {C:Prop} (h:P0∧P1∧P2) (k:P0→P1→P2→C):C:=k h.1 h.2.1 h.2.2
theorem ob04 {P0 P1 P2 P3:Prop} {C:Prop} (h:P0∧P1∧P2∧P3) (k:P0→P1→P2→P3→C):C:=k h.1 h.2.1 h.2.2.1 h.2.2.2
theorem ob05 {P0 P1 P2 P3 P4:Prop} {C:Prop} (h:P0∧P1∧P2∧P3∧P4) (k:P0→P1→P2→P3→P4→C):C:=k h.1 h.2.1 h.2.2.1 h.2.2.2.1 h.2.2.2.2
theorem ob06 {P0 P1 P2 P3 P4 P5:Prop} {C:Prop} (h:P0∧P1∧P2∧P3∧P4∧P5) (k:P0→P1→P2→P3→P4→P5→C):C:=k h.1 h.2.1 h.2.2.1 h.2.2.2.1 h.2.2.2.2.1 h.2.2.2.2.2
theorem ob07 {P0 P1 P2 P3 P4 P5 P6:Prop} {C:Prop} (h:P0∧P1∧P2∧P3∧P4∧P5∧P6) (k:P0→P1→P2→P3→P4→P5→P6→C):C:=k h.1 h.2.1 h.2.2.1 h.2.2.2.1 h.2.2.2.2.1 h.2.2.2.2.2.1 h.2.2.2.2.2.2
theorem ob11 {α:Sort _} {P0:α→Prop} {C:Prop} (h:∃ a,P0 a) (k:∀ a,P0 a→C):C:=h.elim k
theorem ob12 {α:Sort _} {P0 P1:α→Prop} {C:Prop} (h:∃ a,P0 a∧P1 a) (k:∀ a,P0 a→P1 a→C):C:=h.elim fun a h=>ob02 h (k a)
theorem ob13 {α:Sort _} {P0 P1 P2:α→Prop} {C:Prop} (h:∃ a,P0 a∧P1 a∧P2 a) (k:∀ a,P0 a→P1 a→P2 a→C):C:=h.elim fun a h=>ob03 h (k a)
theorem ob14 {α:Sort _} {P0 P1 P2 P3:α→Prop} {C:Prop} (h:∃ a,P0 a∧P1 a∧P2 a∧P3 a) (k:∀ a,P0 a→P1 a→P2 a→P3 a→C):C:=h.elim fun a h=>ob04 h (k a)
theorem ob15 {α:Sort _} {P0 P1 P2 P3 P4:α→Prop} {C:Prop} (h:∃ a,P0 a∧P1 a∧P2 a∧P3 a∧P4 a) (k:∀ a,P0 a→P1 a→P2 a→P3 a→P4 a→C):C:=h.elim fun a h=>ob05 h (k a)
theorem ob16 {α:Sort _} {P0 P1 P2 P3 P4 P5:α→Prop} {C:Prop} (h:∃ a,P0 a∧P1 a∧P2 a∧P3 a∧P4 a∧P5 a) (k:∀ a,P0 a→P1 a→P2 a→P3 a→P4 a→P5 a→C):C:=h.elim fun a h=>ob06 h (k a)
theorem ob17 {α:Sort _} {P0 P1 P2 P3 P4 P5 P6:α→Prop} {C:Prop} (h:∃ a,P0 a∧P1 a∧P2 a∧P3 a∧P4 a∧P5 a∧P6 a) (k:∀ a,P0 a→P1 a→P2 a→P3 a→P4 a→P5 a→P6 a→C):C:=h.elim fun a h=>ob07 h (k a)
theorem ob21 {α:Sort _} {β:Sort _} {P0:α→β→Prop} {C:Prop} (h:∃ a b,P0 a b) (k:∀ a b,P0 a b→C):C:=h.elim fun a h=>ob11 h (k a)
theorem ob22 {α:Sort _} {β:Sort _} {P0 P1:α→β→Prop} {C:Prop} (h:∃ a b,P0 a b∧P1 a b) (k:∀ a b,P0 a b→P1 a b→C):C:=h.elim fun a h=>ob12 h (k a)
theorem ob23 {α:Sort _} {β:Sort _} {P0 P1 P2:α→β→Prop} {C:Prop} (h:∃ a b,P0 a b∧P1 a b∧P2 a b) (k:∀ a b,P0 a b→P1 a b→P2 a b→C):C:=h.elim fun a h=>ob13 h (k a)
theorem ob24 {α:Sort _} {β:Sort _} {P0 P1 P2 P3:α→β→Prop} {C:Prop} (h:∃ a b,P0 a b∧P1 a b∧P2 a b∧P3 a b) (k:∀ a b,P0 a b→P1 a b→P2 a b→P3 a b→C):C:=h.elim fun a h=>ob14 h (k a)
theorem ob25 {α:Sort _} {β:Sort _} {P0 P1 P2 P3 P4:α→β→Prop} {C:Prop} (h:∃ a b,P0 a b∧P1 a b∧P2 a b∧P3 a b∧P4 a b) (k:∀ a b,P0 a b→P1 a b→P2 a b→P3 a b→P4 a b→C):C:=h.elim fun a h=>ob15 h (k a)
theorem ob26 {α:Sort _} {β:Sort _} {P0 P1 P2 P3 P4 P5:α→β→Prop} {C:Prop} (h:∃ a b,P0 a b∧P1 a b∧P2 a b∧P3 a b∧P4 a b∧P5 a b) (k:∀ a b,P0 a b→P1 a b→P2 a b→P3 a b→P4 a b→P5 a b→C):C:=h.elim fun a h=>ob16 h (k a)
theorem ob27 {α:Sort _} {β:Sort _} {P0 P1 P2 P3 P4 P5 P6:α→β→Prop} {C:Prop} (h:∃ a b,P0 a b∧P1 a b∧P2 a b∧P3 a b∧P4 a b∧P5 a b∧P6 a b) (k:∀ a b,P0 a b→P1 a b→P2 a b→P3 a b→P4 a b→P5 a b→P6 a b→C):C:=h.elim fun a h=>ob17 h (k a)
theorem ob31 {α:Sort _} {β:Sort _} {γ:Sort _} {P0:α→β→γ→Prop} {C:Prop} (h:∃ a b c,P0 a b c) (k:∀ a b c,P0 a b c→C):C:=h.elim fun a h=>ob21 h (k a)
theorem ob32 {α:Sort _} {β:Sort _} {γ:Sort _} {P0 P1:α→β→γ→Prop} {C:Prop} (h:∃ a b c,P0 a b c∧P1 a b c) (k:∀ a b c,P0 a b c→P1 a b c→C):C:=h.elim fun a h=>ob22 h (k a)
theorem ob33 {α:Sort _} {β:Sort _} {γ:Sort _} {P0 P1 P2:α→β→γ→Prop} {C:Prop} (h:∃ a b c,P0 a b c∧P1 a b c∧P2 a b c) (k:∀ a b c,P0 a b c→P1 a b c→P2 a b c→C):C:=h.elim fun a h=>ob23 h (k a)
theorem ob34 {α:Sort _} {β:Sort _} {γ:Sort _} {P0 P1 P2 P3:α→β→γ→Prop} {C:Prop} (h:∃ a b c,P0 a b c∧P1 a b c∧P2 a b c∧P3 a b c) (k:∀ a b c,P0 a b c→P1 a b c→P2 a b c→P3 a b c→C):C:=h.elim fun a h=>ob24 h (k a)
theorem ob35 {α:Sort _} {β:Sort _} {γ:Sort _} {P0 P1 P2 P3 P4:α→β→γ→Prop} {C:Prop} (h:∃ a b c,P0 a b c∧P1 a b c∧P2 a b c∧P3 a b c∧P4 a b c) (k:∀ a b c,P0 a b c→P1 a b c→P2 a b c→P3 a b c→P4 a b c→C):C:=h.elim fun a h=>ob25 h (k a)
theorem ob36 {α:Sort _} {β:Sort _} {γ:Sort _} {P0 P1 P2 P3 P4 P5:α→β→γ→Prop} {C:Prop} (h:∃ a b c,P0 a b c∧P1 a b c∧P2 a b c∧P3 a b c∧P4 a b c∧P5 a b c) (k:∀ a b c,P0 a b c→P1 a b c→P2 a b c→P3 a b c→P4 a b c→P5 a b c→C):C:=h.elim fun a h=>ob26 h (k a)
theorem ob37 {α:Sort _} {β:Sort _} {γ:Sort _} {P0 P1 P2 P3 P4 P5 P6:α→β→γ→Prop} {C:Prop} (h:∃ a b c,P0 a b c∧P1 a b c∧P2 a b c∧P3 a b c∧P4 a b c∧P5 a b c∧P6 a b c) (k:∀ a b c,P0 a b c→P1 a b c→P2 a b c→P3 a b c→P4 a b c→P5 a b c→P6 a b c→C):C:=h.elim fun a h=>ob27 h (k a)
theorem ob41 {α:Sort _} {β:Sort _} {γ:Sort _} {δ:Sort _} {P0:α→β→γ→δ→Prop} {C:Prop} (h:∃ a b c d,P0 a b c d) (k:∀ a b c d,P0 a b c d→C):C:=h.elim fun a h=>ob31 h (k a)
theorem ob42 {α:Sort _} {β:Sort _} {γ:Sort _} {δ:Sort _} {P0 P1:α→β→γ→δ→Prop} {C:Prop} (h:∃ a b c d,P0 a b c d∧P1 a b c d) (k:∀ a b c d,P0 a b c d→P1 a b c d→C):C:=h.elim fun a h=>ob32 h (k a)
theorem ob43 {α:Sort _} {β:Sort _} {γ:Sort _} {δ:Sort _} {P0 P1 P2:α→β→γ→δ→Prop} {C:Prop} (h:∃ a b c d,P0 a b c d∧P1 a b c d∧P2 a b c d) (k:∀ a b c d,P0 a b c d→P1 a b c d→P2 a b c d→C):C:=h.elim fun a h=>ob33 h (k a)
theorem ob44 {α:Sort _} {β:Sort _} {γ:Sort _} {δ:Sort _} {P0 P1 P2 P3:α→β→γ→δ→Prop} {C:Prop} (h:∃ a b c d,P0 a b c d∧P1 a b c d∧P2 a b c d∧P3 a b c d) (k:∀ a b c d,P0 a b c d→P1 a b c d→P2 a b c d→P3 a b c d→C):C:=h.elim fun a h=>ob34 h (k a)
theorem ob45 {α:Sort _} {β:Sort _} {γ:Sort _} {δ:Sort _} {P0 P1 P2 P3 P4:α→β→γ→δ→Prop} {C:Prop} (h:∃ a b c d,P0 a b c d∧P1 a b c d∧P2 a b c d∧P3 a b c d∧P4 a b c d) (k:∀ a b c d,P0 a b c d→P1 a b c d→P2 a b c d→P3 a b c d→P4 a b c d→C):C:=h.elim fun a h=>ob35 h (k a)
theorem ob47 {α:Sort _} {β:Sort _} {γ:Sort _} {δ:Sort _} {P0 P1 P2 P3 P4 P5 P6:α→β→γ→δ→Prop} {C:Prop} (h:∃ a b c d,P0 a b c d∧P1 a b c d∧P2 a b c d∧P3 a b c d∧P4 a b c d∧P5 a b c d∧P6 a b c d) (k:∀ a b c d,P0 a b c d→P1 a b c d→P2 a b c d→P3 a b c d→P4 a b c d→P5 a b c d→P6 a b c d→C):C:=h.elim fun a h=>ob37 h (k a)
theorem ob51 {α:Sort _} {β:Sort _} {γ:Sort _} {δ:Sort _} {ε:Sort _} {P0:α→β→γ→δ→ε→Prop} {C:Prop} (h:∃ a b c d e,P0 a b c d e) (k:∀ a b c d e,P0 a b c d e→C):C:=h.elim fun a h=>ob41 h (k a)
theorem ob57 {α:Sort _} {β:Sort _} {γ:Sort _} {δ:Sort _} {ε:Sort _} {P0 P1 P2 P3 P4 P5 P6:α→β→γ→δ→ε→Prop} {C:Prop} (h:∃ a b c d e,P0 a b c d e∧P1 a b c d e∧P2 a b c d e∧P3 a b c d e∧P4 a b c d e∧P5 a b c d e∧P6 a b c d e) (k:∀ a b c d e,P0 a b c d e→P1 a b c d e→P2 a b c d e→P3 a b c d e→P4 a b c d e→P5 a b c d e→P6 a b c d e→C):C:=h.elim fun a h=>ob47 h (k a)
theorem len0 {P:List Value→Prop} (h:P []):∀ l,l.length=0→P l:=fun _ e=>List.eq_nil_of_length_eq_zero e ▸ h
theorem lenS {n:Nat} {P:List Value→Prop} (h:∀ a l,l.length=n→P (a :: l)) (l:List Value) (e:l.length=n+1):P l:=by
 cases l with
 | nil=>exact Nat.noConfusion e
 | cons a l=>exact h a l (Nat.succ.inj e)
theorem len1 {P:List Value→Prop} (h:∀ a,P [a]):∀ l,l.length=1→P l:=lenS fun a=>len0 (h a)
theorem len2 {P:List Value→Prop} (h:∀ a b,P [a,b]):∀ l,l.length=2→P l:=lenS fun a=>len1 (h a)
theorem len3 {P:List Value→Prop} (h:∀ a b c,P [a,b,c]):∀ l,l.length=3→P l:=lenS fun a=>len2 (h a)
theorem len4 {P:List Value→Prop} (h:∀ a b c d,P [a,b,c,d]):∀ l,l.length=4→P l:=lenS fun a=>len3 (h a)
theorem len5 {P:List Value→Prop} (h:∀ a b c d e,P [a,b,c,d,e]):∀ l,l.length=5→P l:=lenS fun a=>len4 (h a)
inductive AV where
 | none | bool (b:Bool) | sb (b:Bool) | num (i:Int) | sym (i:Int) | str (s:Str)
 | ints (l:List Int) | tup (l:List AV) | lst (l:List AV)
 | dS (ks:List Str) (l:List AV) | dI (ks:List Int) (l:List AV)
 | rng (a b c:Int) | ite (b:Bool) (x y:AV) | loc (n:Nat)
noncomputable abbrev lstO (vs:List Value) (n:Nat):Obj:={ cls:=.type "list",data:=.seq vs.toArray n }
noncomputable abbrev tupO (vs:List Value) (n:Nat):Obj:={ cls:=.type "tuple",data:=.seq vs.toArray n }
noncomputable abbrev rngO (a b c:Int) (t u v:Tok):Obj:={ cls:=.type "range",data:=.fields #[.int a t,.int b u,.int c v] }
noncomputable def IntsA:List Int→List Value→Prop
 | [],vs=>vs=[]
 | i :: l,vs=>∃ t r,vs=.int i t :: r∧IntsA l r
variable (prog:Program) (w:World)
abbrev Vis:=Addr→Obj→Prop
mutual
noncomputable def Has (V:Vis) (ρ:List Addr):AV→Value→Prop
 | .none,v=>v=.none
 | .bool b,v=>v=.bool b
 | .sb b,v=>v=.bool b
 | .num i,v=>∃ t,v=.int i t
 | .sym i,v=>∃ t,v=.int i t
 | .str x,v=>∃ t,v=.str x t
 | .ints l,v=>∃ a vs n,v=.ref a∧V a (lstO vs n)∧IntsA l vs
 | .tup l,v=>∃ a vs n,v=.ref a∧V a (tupO vs n)∧HasL V ρ l vs
 | .lst l,v=>∃ a vs n,v=.ref a∧V a (lstO vs n)∧HasL V ρ l vs
 | .dS ks l,v=>∃ a o vs,v=.ref a∧V a o∧o.IsDictOf (strKind prog w) (ks.zip vs)∧ks.length=vs.length∧HasL V ρ l vs
 | .dI ks l,v=>∃ a o vs,v=.ref a∧V a o∧o.IsDictOf (intKind prog w) (ks.zip vs)∧ks.length=vs.length∧HasL V ρ l vs
 | .rng a b c,v=>∃ r t u x,v=.ref r∧V r (rngO a b c t u x)
 | .ite b x y,v=>(b=true→Has V ρ x v)∧(b=false→Has V ρ y v)
 | .loc n,v=>∃ a:Addr,ρ[n]?=some a∧v=.ref a
noncomputable def HasL (V:Vis) (ρ:List Addr):List AV→List Value→Prop
 | [],vs=>vs=[]
 | x :: l,vs=>∃ v r,vs=v :: r∧Has V ρ x v∧HasL V ρ l r
end
mutual
theorem Has.mono {V V':Vis} {ρ ρ':List Addr} (hV:∀ a o,V a o→V' a o) (hρ:∀ (n:Nat) (a:Addr),ρ[n]?=some a→ρ'[n]?=some a) :
  ∀ (t:AV) (v:Value),Has prog w V ρ t v→Has prog w V' ρ' t v
 | .none=>fun _ h=>h
 | .bool _=>fun _ h=>h
 | .sb _=>fun _ h=>h
 | .num _=>fun _ h=>h
 | .sym _=>fun _ h=>h
 | .str _=>fun _ h=>h
 | .ints _=>fun _ h=>ob33 h fun a vs n e hv h=>⟨a,vs,n,e,hV _ _ hv,h⟩
 | .tup l=>fun _ h=>ob33 h fun a vs n e hv h=>⟨a,vs,n,e,hV _ _ hv,HasL.mono hV hρ l vs h⟩
 | .lst l=>fun _ h=>ob33 h fun a vs n e hv h=>⟨a,vs,n,e,hV _ _ hv,HasL.mono hV hρ l vs h⟩
 | .dS _ l=>fun _ h=>ob35 h fun a o vs e hv hd hl h=>⟨a,o,vs,e,hV _ _ hv,hd,hl,HasL.mono hV hρ l vs h⟩
 | .dI _ l=>fun _ h=>ob35 h fun a o vs e hv hd hl h=>⟨a,o,vs,e,hV _ _ hv,hd,hl,HasL.mono hV hρ l vs h⟩
 | .rng _ _ _=>fun _ h=>ob42 h fun r t u x e hv=>⟨r,t,u,x,e,hV _ _ hv⟩
 | .ite _ x y=>fun v h=>⟨fun e=>Has.mono hV hρ x v (h.1 e),fun e=>Has.mono hV hρ y v (h.2 e)⟩
 | .loc n=>fun _ h=>ob12 h fun a e hv=>⟨a,hρ n a e,hv⟩
theorem HasL.mono {V V':Vis} {ρ ρ':List Addr} (hV:∀ a o,V a o→V' a o) (hρ:∀ (n:Nat) (a:Addr),ρ[n]?=some a→ρ'[n]?=some a) :
  ∀ (l:List AV) (vs:List Value),HasL prog w V ρ l vs→HasL prog w V' ρ' l vs
 | []=>fun _ h=>h
 | x :: l=>fun _ h=>ob23 h fun v r e h1 h2=>⟨v,r,e,Has.mono hV hρ x v h1,HasL.mono hV hρ l r h2⟩
end
variable {prog w}
theorem HasL.length {V:Vis} {ρ:List Addr}:∀ {l:List AV} {vs:List Value},HasL prog w V ρ l vs→vs.length=l.length
 | [],_,h=>by rw [show _=[] from h]; rfl
 | _ :: l,_,⟨v,r,e,_,h⟩=>by rw [e,List.length_cons,List.length_cons,HasL.length h]
theorem IntsA.length:∀ {l:List Int} {vs:List Value},IntsA l vs→vs.length=l.length
 | [],_,h=>by rw [show _=[] from h]; rfl
 | _ :: l,_,⟨v,r,e,h⟩=>by rw [e,List.length_cons,List.length_cons,IntsA.length h]
theorem HasL.get {V:Vis} {ρ:List Addr}:∀ {l:List AV} {vs:List Value} {n:Nat} {x:AV},HasL prog w V ρ l vs→l[n]?=some x→∃ v,vs[n]?=some v∧Has prog w V ρ x v
 | y :: l,_,0,x,⟨v,r,e,h,_⟩,hx=>by
  have:y=x:=by simpa using hx
  subst this; subst e
  exact ⟨v,rfl,h⟩
 | y :: l,_,n+1,x,⟨v,r,e,_,h⟩,hx=>by
  subst e
  refine ob12 (HasL.get (n:=n) h (by simpa using hx)) fun u h1 h2=>?_
  exact ⟨u,by simpa using h1,h2⟩
theorem HasL.append {V:Vis} {ρ:List Addr}:∀ {l m:List AV} {vs us:List Value},HasL prog w V ρ l vs→HasL prog w V ρ m us→HasL prog w V ρ (l++m) (vs++us)
 | [],_,_,_,h,k=>by rw [show _=[] from h]; exact k
 | x :: l,m,_,us,⟨v,r,e,h1,h2⟩,k=>by subst e; exact ⟨v,r++us,rfl,h1,h2.append k⟩
theorem IntsA.get:∀ {l:List Int} {vs:List Value} {n:Nat} {x:Int},IntsA l vs→l[n]?=some x→∃ t,vs[n]?=some (.int x t)
 | y :: l,_,0,x,⟨t,r,e,h⟩,hx=>by
  have:y=x:=by simpa using hx
  subst this; subst e
  exact ⟨t,rfl⟩
 | y :: l,_,n+1,x,⟨v,r,e,h⟩,hx=>by
  subst e
  refine ob11 (IntsA.get (n:=n) h (by simpa using hx)) fun u h1=>?_
  exact ⟨u,by simpa using h1⟩
theorem IntsA.hasL {V:Vis} {ρ:List Addr}:∀ {l:List Int} {vs:List Value},IntsA l vs→HasL prog w V ρ (l.map AV.sym) vs
 | [],_,h=>h
 | x :: l,_,⟨t,r,e,h⟩=>⟨.int x t,r,e,⟨t,rfl⟩,h.hasL⟩
theorem G6 {V:Vis} {ρ:List Addr}:∀ {l:List Int} {vs:List Value},HasL prog w V ρ (l.map AV.sym) vs→IntsA l vs
 | [],_,h=>h
 | x :: l,_,⟨v,r,e,⟨t,ht⟩,h⟩=>⟨t,r,by rw [e,ht],G6 h⟩
inductive R (α:Type) where
 | ret (a:α) | ite (b:Bool) (x y:R α) | need (p:Prop) (x:R α) | exc | fail
namespace R
noncomputable def bind {α β:Type}:R α→(α→R β)→R β
 | .ret a,f=>f a
 | .ite b x y,f=>.ite b (x.bind f) (y.bind f)
 | .need p x,f=>.need p (x.bind f)
 | .exc,_=>.exc
 | .fail,_=>.fail
noncomputable def Holds {α:Type}:R α→(α→Prop)→Prop→Prop
 | .ret a,P,_=>P a
 | .ite b x y,P,X=>(b=true→x.Holds P X)∧(b=false→y.Holds P X)
 | .need p x,P,X=>p∧x.Holds P X
 | .exc,_,X=>X
 | .fail,_,_=>False
theorem holds_bind {α β:Type} {P:β→Prop} {X:Prop} {f:α→R β}:∀ {x:R α},(x.bind f).Holds P X→x.Holds (fun a=>(f a).Holds P X) X
 | .ret _,h=>h
 | .ite _ _ _,⟨h1,h2⟩=>⟨fun e=>holds_bind (h1 e),fun e=>holds_bind (h2 e)⟩
 | .need _ _,⟨h1,h2⟩=>⟨h1,holds_bind h2⟩
 | .exc,h=>h
 | .fail,h=>h
theorem holds_bind' {α β:Type} {P:β→Prop} {X:Prop} {f:α→R β}:∀ {x:R α},x.Holds (fun a=>(f a).Holds P X) X→(x.bind f).Holds P X
 | .ret _,h=>h
 | .ite _ _ _,⟨h1,h2⟩=>⟨fun e=>holds_bind' (h1 e),fun e=>holds_bind' (h2 e)⟩
 | .need _ _,⟨h1,h2⟩=>⟨h1,holds_bind' h2⟩
 | .exc,h=>h
 | .fail,h=>h
theorem holds_mono {α:Type} {P P':α→Prop} {X X':Prop} (hP:∀ a,P a→P' a) (hX:X→X'):∀ {x:R α},x.Holds P X→x.Holds P' X'
 | .ret _,h=>hP _ h
 | .ite _ _ _,⟨h1,h2⟩=>⟨fun e=>holds_mono hP hX (h1 e),fun e=>holds_mono hP hX (h2 e)⟩
 | .need _ _,⟨h1,h2⟩=>⟨h1,holds_mono hP hX h2⟩
 | .exc,h=>hX h
 | .fail,h=>h
theorem GR {α:Type} {P:α→Prop} {X:Prop} {G:Prop} (h1:∀ a,P a→G) (h2:X→G):∀ {x:R α},x.Holds P X→G
 | .ret _,h=>h1 _ h
 | .ite b _ _,⟨k1,k2⟩=>by cases b; exact GR h1 h2 (k2 rfl); exact GR h1 h2 (k1 rfl)
 | .need _ _,⟨_,h⟩=>GR h1 h2 h
 | .exc,h=>h2 h
 | .fail,h=>h.elim
end R
inductive Slot where
 | own (c:AV) | frz (t:AV)
structure Frm where
 env:Env
 X:Addr→Prop
 base:Heap
 fr:Addr→Prop
 frX:∀ a,fr a→X a
def Kept (fr:Addr→Prop) (h:Heap) (a:Addr) (o:Obj):Prop:=∃ t,h.get? a=some { o with slots:=t }∧(fr a∨t=o.slots)
theorem Kept.of {fr:Addr→Prop} {h:Heap} {a:Addr} {o:Obj} (e:h.get? a=some o):Kept fr h a o:=⟨o.slots,e,.inr rfl⟩
theorem Kept.exact {fr:Addr→Prop} {h:Heap} {a:Addr} {o:Obj} (k:Kept fr h a o) (n:¬ fr a):h.get? a=some o:=by
 (refine ob12 k ?_; clear k; intro t e q)
 rcases q with q | q
 ·exact (n q).elim
 ·subst q; exact e
theorem Kept.some {fr:Addr→Prop} {h:Heap} {a:Addr} {o:Obj} (k:Kept fr h a o):∃ o',h.get? a=some o'∧o'.data=o.data:=ob12 k fun _ e _=>⟨_,e,rfl⟩
theorem Kept.trans {fr:Addr→Prop} {h h':Heap} {a:Addr} {o:Obj} (k:Kept fr h a o) (k':∀ o,h.get? a=Option.some o→Kept fr h' a o):Kept fr h' a o:=by
 (refine ob12 k ?_; clear k; intro t e q)
 refine ob12 (k' _ e) fun t' e' q'=>?_
 exact ⟨t',e',q.elim .inl fun q=>q'.elim .inl fun q'=>.inr (q'.trans q)⟩
theorem Kept.sub {fr fr':Addr→Prop} {h:Heap} {a:Addr} {o:Obj} (k:Kept fr h a o) (hs:fr a→fr' a):Kept fr' h a o:=ob12 k fun t e q=>⟨t,e,q.imp hs id⟩
theorem PE {fr:Addr→Prop} {h h':Heap} {a:Addr} {m:Str→Option Value} (n:h.Ns a m) (k:∀ o,h.get? a=some o→Kept fr h' a o):h'.Ns a m:=by
 (refine ob33 n ?_; clear n; intro o es ep e d r)
 refine ob12 ((k o e).some) fun o' e' d'=>?_
 exact ⟨o',es,ep,e',d'.trans d,r⟩
abbrev AEnv:=List (Str×AV)
def OwnA (sl:List Slot) (ρ:List Addr) (a:Addr):Prop:=∃ (n:Nat) (c:AV),sl[n]?=some (Slot.own c)∧ρ[n]?=some a
def Mut (F:Frm) (sl:List Slot) (ρ:List Addr) (a:Addr):Prop:=a=F.env.locals∨(∃ x,(x,a)∈F.env.cells)∨OwnA sl ρ a
def Bad (F:Frm) (sl:List Slot) (ρ:List Addr) (a:Addr):Prop:=F.X a∨Mut F sl ρ a
def Vw (F:Frm) (sl:List Slot) (ρ:List Addr) (h:Heap):Vis:=fun a o=>h.get? a=some o∧¬ Bad F sl ρ a∧(a==sysModules)=false
variable (prog w)
def OwnAt (V:Vis) (ρ:List Addr) (h:Heap) (a:Addr):AV→Prop
 | .lst l=>∃ vs n,h.get? a=some (lstO vs n)∧HasL prog w V ρ l vs
 | .dS ks l=>∃ o vs,h.get? a=some o∧o.IsDictOf (strKind prog w) (ks.zip vs)∧ks.length=vs.length∧HasL prog w V ρ l vs
 | .dI ks l=>∃ o vs,h.get? a=some o∧o.IsDictOf (intKind prog w) (ks.zip vs)∧ks.length=vs.length∧HasL prog w V ρ l vs
 | _=>False
def SlotAt (V:Vis) (ρ:List Addr) (h:Heap) (a:Addr):Slot→Prop
 | .own c=>OwnAt prog w V ρ h a c
 | .frz t=>Has prog w V ρ t (.ref a)
structure Inv (F:Frm) (env:AEnv) (sl:List Slot) (ρ:List Addr) (s:Shared):Prop where
 base:∀ a o,F.base.get? a=some o→s.heap.get? a=some o
 sm:∃ o,F.base.get? sysModules=some o
 low:∀ a,Bad F sl ρ a→F.base.get? a=none∧∃ o,s.heap.get? a=some o
 ns:∃ m,s.heap.Ns F.env.locals m∧∀ x av,env.lookup x=some av→F.env.kindOf x=some .local→∃ v,m x=some v∧Has prog w (Vw F sl ρ s.heap) ρ av v
 cell:∀ x av,env.lookup x=some av→F.env.kindOf x=some .cell∨F.env.kindOf x=some .free→∃ c v,F.env.cells.lookup x=some c∧s.heap.IsCell c (some v)∧Has prog w (Vw F sl ρ s.heap) ρ av v
 kind:∀ x av,env.lookup x=some av→F.env.kindOf x=some .local∨F.env.kindOf x=some .cell∨F.env.kindOf x=some .free
 cells:∀ x c,(x,c)∈F.env.cells→(∃ ov,s.heap.IsCell c ov)∧c≠F.env.locals
 len:ρ.length=sl.length
 slots:∀ (n:Nat) (a:Addr) (σ:Slot),ρ[n]?=some a→sl[n]?=some σ→SlotAt prog w (Vw F sl ρ s.heap) ρ s.heap a σ
 apart:∀ (n m:Nat) (a:Addr) (c c':AV),sl[n]?=some (Slot.own c)→sl[m]?=some (Slot.own c')→ρ[n]?=some a→ρ[m]?=some a→n=m
 ownNe:∀ a,OwnA sl ρ a→a≠F.env.locals∧(∀ x,(x,a) ∉ F.env.cells)∧¬ F.X a
 locX:¬ F.X F.env.locals∧∀ x c,(x,c)∈F.env.cells→¬ F.X c
 frs:∀ a,F.fr a→∃ o,s.heap.get? a=some o∧∀ vs,o.data≠.fields vs
structure Evo (F:Frm) (sl:List Slot) (ρ:List Addr) (s:Shared) (sl':List Slot) (ρ':List Addr) (s':Shared):Prop where
 keep:∀ a o,s.heap.get? a=some o→¬ Mut F sl ρ a→Kept F.fr s'.heap a o
 gens:s'.gens=s.gens
 drawn:s'.drawn=s.drawn
 os:s'.os=s.os
 ext:∀ (n:Nat) (a:Addr),ρ[n]?=some a→ρ'[n]?=some a
 mu:∀ a,Mut F sl' ρ' a→Mut F sl ρ a∨s.heap.get? a=none
 live:∀ a o,s.heap.get? a=some o→∃ o',s'.heap.get? a=some o'
variable {prog w}
theorem Evo.refl (F:Frm) (sl:List Slot) (ρ:List Addr) (s:Shared):Evo F sl ρ s sl ρ s:=
 ⟨fun _ _ e _=>.of e,rfl,rfl,rfl,fun _ _ e=>e,fun _ h=>.inl h,fun _ o e=>⟨o,e⟩⟩
theorem Evo.trans {F:Frm} {sl₁ sl₂ sl₃:List Slot} {ρ₁ ρ₂ ρ₃:List Addr} {s₁ s₂ s₃:Shared} (x:Evo F sl₁ ρ₁ s₁ sl₂ ρ₂ s₂) (y:Evo F sl₂ ρ₂ s₂ sl₃ ρ₃ s₃):Evo F sl₁ ρ₁ s₁ sl₃ ρ₃ s₃:=
 ⟨fun a o e hm=>(x.keep a o e hm).trans fun o' e'=>y.keep a o' e' fun q=>(x.mu a q).elim hm fun z=>(nomatch z.symm.trans e),
  y.gens.trans x.gens,y.drawn.trans x.drawn,y.os.trans x.os,fun n a e=>y.ext n a (x.ext n a e),
  fun a h=>(y.mu a h).elim (x.mu a) fun z=>(by
   by_cases hm:Mut F sl₁ ρ₁ a
   ·exact .inl hm
   ·cases e:s₁.heap.get? a with
    | none=>exact .inr rfl
    | some o=>
     refine ob12 ((x.keep a o e hm).some) fun o' e' _=>?_
     rw [e'] at z; cases z),
  fun a o e=>ob11 (x.live a o e) fun o' e'=>y.live a o' e'⟩
theorem Evo.vis {F:Frm} {sl sl':List Slot} {ρ ρ':List Addr} {s s':Shared} (x:Evo F sl ρ s sl' ρ' s') (a:Addr) (o:Obj) (h:Vw F sl ρ s.heap a o):Vw F sl' ρ' s'.heap a o:=
 ⟨(x.keep a o h.1 fun q=>h.2.1 (.inr q)).exact fun q=>h.2.1 (.inl (F.frX a q)),fun q=>q.elim (fun z=>h.2.1 (.inl z)) fun z=>(x.mu a z).elim (fun y=>h.2.1 (.inr y)) fun y=>(nomatch y.symm.trans h.1),h.2.2⟩
theorem Evo.has {F:Frm} {sl sl':List Slot} {ρ ρ':List Addr} {s s':Shared} (x:Evo F sl ρ s sl' ρ' s') {t:AV} {v:Value} (h:Has prog w (Vw F sl ρ s.heap) ρ t v):Has prog w (Vw F sl' ρ' s'.heap) ρ' t v:=
 Has.mono prog w x.vis x.ext t v h
theorem Evo.hasL {F:Frm} {sl sl':List Slot} {ρ ρ':List Addr} {s s':Shared} (x:Evo F sl ρ s sl' ρ' s') {t:List AV} {v:List Value} (h:HasL prog w (Vw F sl ρ s.heap) ρ t v):HasL prog w (Vw F sl' ρ' s'.heap) ρ' t v:=
 HasL.mono prog w x.vis x.ext t v h
structure Calm (F:Frm) (sl:List Slot) (ρ:List Addr) (s s':Shared):Prop where
 keep:∀ a o,s.heap.get? a=some o→s'.heap.get? a=some o
 gens:s'.gens=s.gens
 drawn:s'.drawn=s.drawn
 os:s'.os=s.os
theorem Calm.evo {F:Frm} {sl:List Slot} {ρ:List Addr} {s s':Shared} (x:Calm F sl ρ s s'):Evo F sl ρ s sl ρ s':=
 ⟨fun a o e _=>.of (x.keep a o e),x.gens,x.drawn,x.os,fun _ _ e=>e,fun _ h=>.inl h,fun a o e=>⟨o,x.keep a o e⟩⟩
theorem SlotAt.calm {V V':Vis} {ρ ρ':List Addr} {h h':Heap} {a:Addr} (hV:∀ a o,V a o→V' a o) (hρ:∀ (n:Nat) (a:Addr),ρ[n]?=some a→ρ'[n]?=some a) (hk:∀ o,h.get? a=some o→h'.get? a=some o) :
  ∀ {σ:Slot},SlotAt prog w V ρ h a σ→SlotAt prog w V' ρ' h' a σ:=fun {σ} x=>by
 cases σ with
 | frz t=>exact Has.mono prog w hV hρ t _ x
 | own c=>
  cases c<;>try exact x.elim
  ·exact ob22 x fun vs n e x=>⟨vs,n,hk _ e,HasL.mono prog w hV hρ _ vs x⟩
  ·exact ob24 x fun o vs e d q x=>⟨o,vs,hk _ e,d,q,HasL.mono prog w hV hρ _ vs x⟩
  ·exact ob24 x fun o vs e d q x=>⟨o,vs,hk _ e,d,q,HasL.mono prog w hV hρ _ vs x⟩
theorem Inv.calm {F:Frm} {env:AEnv} {sl:List Slot} {ρ:List Addr} {s s':Shared} (I:Inv prog w F env sl ρ s) (x:Calm F sl ρ s s'):Inv prog w F env sl ρ s':=by
 have hv:=x.evo.vis
 refine ⟨fun a o e=>x.keep a o (I.base a o e),I.sm,fun a h=>⟨(I.low a h).1,ob11 ((I.low a h).2) fun o e=>⟨o,x.keep a o e⟩⟩,?_,?_,I.kind,?_,I.len,?_,I.apart,I.ownNe,I.locX,fun a h=>ob12 (I.frs a h) fun o e d=>⟨o,x.keep a o e,d⟩⟩
 ·refine ob12 I.ns fun m hn hm=>?_
  exact ⟨m,hn.keeps x.keep,fun y av e k=>ob12 (hm y av e k) fun v e1 e2=>⟨v,e1,Has.mono prog w hv (fun _ _ e=>e) av v e2⟩⟩
 ·intro y av e k
  refine ob23 (I.cell y av e k) fun c v e1 e2 e3=>?_
  exact ⟨c,v,e1,e2.keeps x.keep,Has.mono prog w hv (fun _ _ e=>e) av v e3⟩
 ·intro y c e
  (refine ob02 (I.cells y c e) fun ζ1 h2=>?_; refine ob11 ζ1 ?_; clear ζ1; intro ov h1)
  exact ⟨⟨ov,h1.keeps x.keep⟩,h2⟩
 ·intro n a σ e1 e2
  exact (I.slots n a σ e1 e2).calm hv (fun _ _ e=>e) (x.keep a)
theorem Calm.tok {F:Frm} {sl:List Slot} {ρ:List Addr} {s:Shared} (t:Nat):Calm F sl ρ s { s with toks:=t }:=⟨fun _ _ e=>e,rfl,rfl,rfl⟩
theorem Calm.push {F:Frm} {sl:List Slot} {ρ:List Addr} {s:Shared} (o:Obj) (t:Nat):Calm F sl ρ s { s with heap:=s.heap.push o,toks:=t }:=
 ⟨fun _ _ e=>Heap.get?_push_of_some _ e,rfl,rfl,rfl⟩
theorem Calm.trans {F:Frm} {sl:List Slot} {ρ:List Addr} {s₁ s₂ s₃:Shared} (x:Calm F sl ρ s₁ s₂) (y:Calm F sl ρ s₂ s₃):Calm F sl ρ s₁ s₃:=
 ⟨fun a o e=>y.keep a o (x.keep a o e),y.gens.trans x.gens,y.drawn.trans x.drawn,y.os.trans x.os⟩
theorem Inv.notSm {F:Frm} {env:AEnv} {sl:List Slot} {ρ:List Addr} {s:Shared} (I:Inv prog w F env sl ρ s) {a:Addr} (h:F.base.get? a=none):(a==sysModules)=false:=by
 refine ob11 I.sm fun o e=>?_
 exact beq_eq_false_iff_ne.mpr fun q=>by subst q; rw [e] at h; exact nomatch h
theorem AJ (h:Heap):h.get? h.objs.size=none:=by
 cases e:h.get? h.objs.size with
 | none=>rfl
 | some o=>exact absurd (Heap.lt_size e) (Nat.lt_irrefl _)
theorem Inv.nfr {F:Frm} {env:AEnv} {sl:List Slot} {ρ:List Addr} {s:Shared} (I:Inv prog w F env sl ρ s) {a:Addr} (h:s.heap.get? a=none):¬ F.fr a:=fun q=>by
 refine ob12 (I.frs a q) fun o e _=>?_
 rw [h] at e; exact nomatch e
theorem C2 {F:Frm} {env:AEnv} {sl:List Slot} {ρ:List Addr} {s:Shared} (I:Inv prog w F env sl ρ s) {s':Shared} {o:Obj} {a:Addr} (ha:s.heap.get? a=none) (e:s'.heap.get? a=some o):Vw F sl ρ s'.heap a o:=by
 have h1:¬ Bad F sl ρ a:=fun q=>by
  (refine ob02 (I.low a q) fun _ ζ1=>?_; refine ob11 ζ1 ?_; clear ζ1; intro o' e')
  rw [ha] at e'; exact nomatch e'
 have h2:F.base.get? a=none:=by
  cases e':F.base.get? a with
  | none=>rfl
  | some o'=>rw [I.base a o' e'] at ha; exact nomatch ha
 exact ⟨e,h1,I.notSm h2⟩
end
end Mine
end
section
namespace Mine
section
abbrev SL:=List Slot
noncomputable def BF:AV→Option (Int×Bool)
 | .num i=>some (i,false)
 | .sym i=>some (i,true)
 | _=>none
noncomputable def mkI (i:Int) (s:Bool):AV:=match s with | true=>.sym i | false=>.num i
noncomputable def mkB (b:Bool) (s:Bool):AV:=match s with | true=>.sb b | false=>.bool b
noncomputable def AQ:AV→Option (Bool×Bool)
 | .bool b=>some (b,false)
 | .sb b=>some (b,true)
 | _=>none
noncomputable def res (sl:SL):AV→AV
 | .loc n=>match sl[n]? with
  | some (.frz t)=>t
  | _=>.loc n
 | v=>v
noncomputable def Slot.val:Slot→AV
 | .own c=>c
 | .frz t=>t
noncomputable def lstV (v:AV):Option (List AV):=match v with
 | .lst l=>some l
 | _=>none
noncomputable def tupV (v:AV):Option (List AV):=match v with
 | .tup l=>some l
 | _=>none
noncomputable def PF (v:AV):Option Unit:=match v with
 | .none=>some ()
 | _=>none
noncomputable def dSO (v:AV):Option (List Str×List AV):=match v with
 | .dS ks l=>some (ks,l)
 | _=>none
noncomputable def NV (sl:SL) (v:AV):Option (List AV):=match v with
 | .lst l=>some l
 | .ints l=>some (l.map .sym)
 | .loc n=>(sl[n]?).bind fun σ=>lstV σ.val
 | _=>none
mutual
noncomputable def G7:AV→Bool
 | .tup l=>D6 l
 | .lst l=>D6 l
 | .dS _ l=>D6 l
 | .dI _ l=>D6 l
 | .ite _ x y=>G7 x&&G7 y
 | .loc _=>false
 | _=>true
noncomputable def D6:List AV→Bool
 | []=>true
 | x :: l=>G7 x&&D6 l
end
noncomputable def Slot.isOwn:Slot→Bool
 | .own _=>true
 | .frz _=>false
noncomputable def GS {α:Type} (o:Option α) (f:α→Bool):Bool:=match o with
 | some a=>f a
 | none=>false
noncomputable def ownAt? (sl:SL) (n:Nat):Bool:=GS sl[n]? Slot.isOwn
noncomputable def ownD (c:AV):Option ((List AV→AV)×List AV):=match c with
 | .lst l=>some (.lst,l)
 | .dS ks l=>some (.dS ks,l)
 | .dI ks l=>some (.dI ks,l)
 | _=>none
noncomputable def locO (v:AV):Option Nat:=match v with
 | .loc n=>some n
 | _=>none
noncomputable def selO {α β:Type} (o:Option α) (k:α→β) (g:β):β:=match o with
 | some a=>k a
 | none=>g
mutual
noncomputable def frz:Nat→SL→AV→Option (SL×AV)
 | 0,_,_=>none
 | k+1,sl,v=>selO (locO v) (fun n=>(sl[n]?).bind fun σ=>match σ with
   | .frz t=>some (sl,t)
   | .own c=>(ownD c).bind fun q=>(frzL k sl q.2).bind fun r=>bif ownAt? r.1 n then some (r.1.set n (.frz (q.1 r.2)),q.1 r.2) else none)
  (selO (tupV v) (fun l=>bif D6 l then some (sl,v) else (frzL k sl l).bind fun r=>some (r.1,.tup r.2))
   (bif G7 v then some (sl,v) else none))
noncomputable def frzL:Nat→SL→List AV→Option (SL×List AV)
 | 0,_,_=>none
 | _+1,sl,[]=>some (sl,[])
 | k+1,sl,x :: l=>(frz k sl x).bind fun p=>(frzL k p.1 l).bind fun q=>some (q.1,p.2 :: q.2)
end
noncomputable def und:AV→AV
 | .ite b x y=>match b with | true=>und x | false=>und y
 | v=>v
noncomputable def D0 {α β γ:Type} (o:Option α) (p:Option β) (f:α→β→γ) (g:γ):γ:=match o with
 | some a=>(match p with
  | some b=>f a b
  | none=>g)
 | none=>g
noncomputable def strO (v:AV):Option Str:=match v with
 | .str i=>some i
 | _=>none
noncomputable def eqF (x y:AV):Option Bool:=D0 (PF x) (PF y) (fun _ _=>some true) (D0 (AQ x) (AQ y) (fun a b=>some (a.1==b.1)) (D0 (BF x) (BF y) (fun a b=>some (a.1==b.1)) (D0 (strO x) (strO y) (fun a b=>some (a==b)) none)))
noncomputable def eqFL:List AV→List AV→Option Bool
 | [],m=>match m with | []=>some true | _ :: _=>none
 | x :: l,m=>match m with
  | y :: r=>(eqF (und x) (und y)).bind fun b=>(eqFL l r).bind fun c=>some (b&&c)
  | []=>none
noncomputable def eqG (x y:AV):Option Bool:=D0 (dSO x) (dSO y) (fun p q=>bif decide (p.1=q.1∧p.1.Nodup) then eqFL p.2 q.2 else none) (eqF x y)
noncomputable def eqGL:List AV→List AV→Option Bool
 | [],m=>match m with | []=>some true | _ :: _=>none
 | x :: l,m=>match m with
  | y :: r=>(eqG (und x) (und y)).bind fun b=>(eqGL l r).bind fun c=>some (b&&c)
  | []=>none
noncomputable def eqE (x y:AV):Option Bool:=D0 (lstV x) (lstV y) eqFL (eqF x y)
noncomputable def eqN (x y:AV):Option Bool:=D0 (lstV x) (lstV y) eqFL (D0 (tupV x) (tupV y) eqGL (D0 (PF x) (tupV y) (fun _ _=>some false) (D0 (tupV x) (PF y) (fun _ _=>some false) (eqF x y))))
noncomputable def ask (s:Bool) (p:Prop) [Decidable p] (x:R AV):R AV:=match s with
 | true=>.need p x
 | false=>match decide p with
  | true=>x
  | false=>.fail
noncomputable def AO {α:Type} (b:Bool) (x:R α):R α:=match b with
 | true=>x
 | false=>.fail
noncomputable def eAny {α:Type} (l:List AV) (k:AV→List AV→R α):R α:=match l with
 | x :: r=>k x r
 | []=>.fail
noncomputable def eNil {α:Type} (l:List AV) (k:R α):R α:=match l with
 | []=>k
 | _ :: _=>.fail
noncomputable def eOne {α:Type} (l:List AV) (k:AV→R α):R α:=eAny l fun x r=>eNil r (k x)
noncomputable def onO {α β:Type} (o:Option β) (k:β→R α):R α:=match o with
 | some b=>k b
 | none=>.fail
noncomputable def orO {α β:Type} (o:Option β) (k:β→R α) (g:R α):R α:=match o with
 | some b=>k b
 | none=>g
noncomputable def EB {α:Type} (v:AV) (k:Str→R α):R α:=match v with
 | .str x=>k x
 | _=>.fail
noncomputable def LY {α:Type} (v:AV) (k:Int→R α):R α:=match v with
 | .num x=>k x
 | _=>.fail
noncomputable def G8 {α:Type} (v:AV) (k:Int→R α):R α:=match v with
 | .sym x=>k x
 | _=>.fail
noncomputable def K1 {α:Type} (v:AV) (k:List Int→R α):R α:=match v with
 | .ints x=>k x
 | _=>.fail
noncomputable def J1 {α:Type} (v:AV) (k:List AV→R α):R α:=match v with
 | .lst x=>k x
 | _=>.fail
noncomputable def aiU {α:Type} (v:AV) (k:Int→Int→Int→R α):R α:=match v with
 | .rng a b c=>k a b c
 | _=>.fail
noncomputable def VE {α:Type} (v:AV) (k:Nat→R α):R α:=match v with
 | .loc n=>k n
 | _=>.fail
noncomputable def onDS {α:Type} (v:AV) (k:List Str→List AV→R α):R α:=match v with
 | .dS ks l=>k ks l
 | _=>.fail
noncomputable def intB (op:Operator) (i j:Int) (s t:Bool):R AV:=match op with
 | .Add=>.ret (mkI (i+j) (s||t))
 | .Sub=>.ret (mkI (i - j) (s||t))
 | .Mult=>ask s (i.natAbs<2 ^ 64) (ask t (j.natAbs<2 ^ 64) (.ret (mkI (i*j) (s||t))))
 | .FloorDiv=>ask t (j≠0∧j.natAbs<2 ^ 128) (.ret (mkI (i.fdiv j) (s||t)))
 | .Mod=>ask t (j≠0) (.ret (mkI (i.fmod j) (s||t)))
 | .LShift=>ask t (0≤j∧j≤1000000) (ask s (i.natAbs<2 ^ 64) (.ret (mkI (i*2 ^ j.toNat) (s||t))))
 | .RShift=>ask t (0≤j) (.ret (mkI (i.fdiv (2 ^ j.toNat)) (s||t)))
 | .BitAnd=>.ret (mkI (Builtin.bitAnd i j) (s||t))
 | .BitOr=>.ret (mkI (Builtin.bitOr i j) (s||t))
 | .BitXor=>.ret (mkI (Builtin.bitXor i j) (s||t))
 | _=>.fail
noncomputable def intA (op:Operator) (a b:AV):R AV:=onO (BF a) fun i=>onO (BF b) fun j=>intB op i.1 j.1 i.2 j.2
noncomputable def addA (a b:AV):R AV:=match a with
 | .str x=>EB b fun y=>.need (x.length+y.length≤16777216) (.ret (.str (x++y)))
 | .lst l=>J1 b fun m=>AO (Nat.blt (l.length+m.length) 16777216) (.ret (.lst (l++m)))
 | _=>intA .Add a b
noncomputable def binA (op:Operator) (a b:AV):R AV:=match op with
 | .Add=>addA a b
 | _=>intA op a b
noncomputable def unA (op:UnaryOp) (a:AV):R AV:=match op with
 | .Not=>onO (AQ a) fun b=>.ret (mkB (!b.1) b.2)
 | .USub=>onO (BF a) fun i=>.ret (mkI (-i.1) i.2)
 | .Invert=>onO (BF a) fun i=>.ret (mkI (Builtin.bitNot i.1) i.2)
 | _=>.fail
noncomputable def GD:List AV→Option (List Str)
 | []=>some []
 | .str x :: l=>match GD l with
  | some m=>some (x :: m)
  | none=>none
 | _ :: _=>none
noncomputable def numsOf:List AV→Option (List Int)
 | []=>some []
 | .num x :: l=>match numsOf l with
  | some m=>some (x :: m)
  | none=>none
 | _ :: _=>none
noncomputable def memS (x:Str):List Str→Bool
 | []=>false
 | k :: l=>match k==x with
  | true=>true
  | false=>memS x l
noncomputable def memI (x:Int):List Int→Bool
 | []=>false
 | k :: l=>k==x||memI x l
noncomputable def aeL {α:Type} (v:AV) (k:List AV→R α):R α:=match v with
 | .tup l=>k l
 | _=>.fail
noncomputable def aqJ (x:Str) (b:AV):R AV:=match b with
 | .str y=>.ret (.bool !(Builtin.Str.occurrences y x 0 y.length 1).isEmpty)
 | .tup l=>onO (GD l) fun m=>.ret (.bool (memS x m))
 | .dS ks _=>.ret (.bool (memS x ks))
 | _=>.fail
noncomputable def inA (a b:AV):R AV:=match a with
 | .num i=>aeL b fun l=>onO (numsOf l) fun m=>.ret (.bool (memI i m))
 | .sym i=>aeL b fun l=>onO (numsOf l) fun m=>.ret (.sb (memI i m))
 | .str x=>aqJ x b
 | _=>.fail
noncomputable def acB (a b:AV):R AV:=EB a fun x=>onDS b fun ks _=>.ret (.bool (!memS x ks))
noncomputable def acC (a b:AV):R AV:=onO (PF b) fun _=>match a with
 | .none=>.ret (.bool false)
 | .num _=>.ret (.bool true)
 | .sym _=>.ret (.bool true)
 | _=>.fail
noncomputable def eqQ (a b:AV):R AV:=.need ((eqE (und a) (und b)).isSome=true) (.ret (.sb ((eqE (und a) (und b)).getD false)))
noncomputable def neQ (a b:AV):R AV:=.need ((eqN (und a) (und b)).isSome=true) (.ret (.sb (!((eqN (und a) (und b)).getD false))))
noncomputable def numO (v:AV):Option Int:=match v with
 | .num i=>some i
 | _=>none
noncomputable def eqA (a b:AV):R AV:=D0 (numO a) (numO b) (fun i j=>.ret (.bool (i==j))) (D0 (strO a) (strO b) (fun x y=>.ret (.bool (x==y))) (eqQ a b))
noncomputable def neA (a b:AV):R AV:=D0 (numO a) (numO b) (fun i j=>.ret (.bool (!(i==j)))) (D0 (strO a) (strO b) (fun x y=>.ret (.bool (!(x==y)))) (neQ a b))
noncomputable def ordA (op:CmpOp) (a b:AV):R AV:=onO (BF a) fun i=>onO (BF b) fun j=>match op with
 | .Lt=>.ret (mkB (decide (i.1<j.1)) (i.2||j.2))
 | .LtE=>.ret (mkB (decide (i.1≤j.1)) (i.2||j.2))
 | .Gt=>.ret (mkB (decide (j.1<i.1)) (i.2||j.2))
 | .GtE=>.ret (mkB (decide (j.1≤i.1)) (i.2||j.2))
 | _=>.fail
noncomputable def cmpA (op:CmpOp) (a b:AV):R AV:=
 match op with
 | .In=>inA a b
 | .NotIn=>acB a b
 | .IsNot=>acC a b
 | .Eq=>eqA a b
 | .NotEq=>neA a b
 | _=>ordA op a b
noncomputable def D7:List Str→List AV→Str→Option AV
 | k :: ks,v :: vs,x=>match k==x with
  | true=>some v
  | false=>D7 ks vs x
 | _,_,_=>none
noncomputable def PG:List Int→List AV→Int→Option AV
 | k :: ks,v :: vs,x=>match decide (k=x) with
  | true=>some v
  | false=>PG ks vs x
 | _,_,_=>none
noncomputable def EC:List Int→List Str→Int→Str→Str
 | k :: ks,v :: vs,x,d=>match decide (k=x) with
  | true=>v
  | false=>EC ks vs x d
 | _,_,_,d=>d
noncomputable def putS:List Str→List AV→Str→AV→List Str×List AV
 | k :: ks,v :: vs,x,u=>match k==x with
  | true=>(k :: ks,u :: vs)
  | false=>let (a,b):=putS ks vs x u; (k :: a,v :: b)
 | _,_,x,u=>([x],[u])
noncomputable def putI:List Int→List AV→Int→AV→List Int×List AV
 | k :: ks,v :: vs,x,u=>match decide (k=x) with
  | true=>(k :: ks,u :: vs)
  | false=>let (a,b):=putI ks vs x u; (k :: a,v :: b)
 | _,_,x,u=>([x],[u])
noncomputable def aeM:List Int→List AV→Int→R AV→R AV
 | k :: ks,v :: vs,x,d=>.ite (decide (k=x)) (.ret v) (aeM ks vs x d)
 | _,_,_,d=>d
inductive DV where
 | s (ks:List Str) (l:List AV) | i (ks:List Int) (l:List AV)
noncomputable def dvO (v:AV):Option DV:=match v with
 | .dS ks l=>some (.s ks l)
 | .dI ks l=>some (.i ks l)
 | _=>none
noncomputable def dvS (σ:Slot):Option DV:=match σ with
 | .own c=>dvO c
 | .frz _=>none
noncomputable def GT (sl:SL) (v:AV):Option DV:=match v with
 | .dS ks l=>some (.s ks l)
 | .dI ks l=>some (.i ks l)
 | .loc n=>(sl[n]?).bind dvS
 | _=>none
noncomputable def onNS {α:Type} (v:AV) (f g:Int→R α):R α:=match v with
 | .num x=>f x
 | .sym x=>g x
 | _=>.fail
noncomputable def getD (d:DV) (k:AV) (dflt:Option AV):R AV:=match d with
 | .s ks l=>EB k fun x=>orO (D7 ks l x) .ret (onO dflt .ret)
 | .i ks l=>onNS k (fun x=>orO (PG ks l x) .ret (onO dflt .ret)) fun x=>orO (GD l)
   (fun m=>orO dflt (fun v=>EB v fun d=>.ret (.str (EC ks m x d))) (.need (x∈ks) (.ret (.str (EC ks m x ⟨#[]⟩)))))
   (onO dflt fun v=>aeM ks l x (.ret v))
noncomputable def aeN:Nat→List AV→Int→R AV
 | n,v :: vs,x=>.ite (decide (x=n)) (.ret v) (aeN (n+1) vs x)
 | _,[],_=>.fail
noncomputable def H8:List Str→Nat→Str
 | x :: _,0=>x
 | _ :: l,n+1=>H8 l n
 | [],_=>⟨#[]⟩
noncomputable def atN (l:List AV) (x:Int):R AV:=AO (decide (0≤x)) (onO (l[x.toNat]?) fun v=>AO (Nat.blt l.length 16777216) (.ret v))
noncomputable def idxA (l:List AV) (i:AV):R AV:=onNS i (atN l) fun x=>orO (GD l)
 (fun m=>AO (Nat.blt m.length 16777216) (.need (0≤x∧x<m.length) (.ret (.str (H8 m x.toNat)))))
 (AO (Nat.blt l.length 16777216) (aeN 0 l x))
noncomputable def J2 (sl:SL) (v i:AV):R AV:=match v with
 | .ints l=>G8 i fun x=>.need (0≤x∧x<l.length∧l.length<2 ^ 62) (.ret (.sym (l.getD x.toNat 0)))
 | .tup l=>LY i (atN l)
 | _=>orO (NV sl v) (fun l=>idxA l i) (onO (GT sl v) fun d=>getD d i none)
end
end Mine
end
section
namespace Mine
section
structure Fn where
 height:Nat
 spec:List AV→R AV
structure WFn where
 height:Nat
 spec:List AV→List AV→R (List AV×AV)
structure Ctx where
 glob:List (Str×AV)
 funs:List (Str×Fn)
 wfuns:List (Str×WFn)
 raise:Bool:=false
abbrev RE:=R (Option SL×AV)
abbrev RL:=R (Option SL×List AV)
def DC (x:R AV):RE:=x.bind fun v=>.ret (none,v)
def seqE (x:RE) (sl:SL) (k:AV→SL→RE):RE:=x.bind fun p=>match p with
 | (none,v)=>k v sl
 | (some sl₁,v)=>(k v sl₁).bind fun q=>.ret (some (q.1.getD sl₁),q.2)
def seqL (x:RE) (sl:SL) (k:AV→SL→RL):RL:=x.bind fun p=>match p with
 | (none,v)=>k v sl
 | (some sl₁,v)=>(k v sl₁).bind fun q=>.ret (some (q.1.getD sl₁),q.2)
def seqLE (x:RL) (sl:SL) (k:List AV→SL→RE):RE:=x.bind fun p=>match p with
 | (none,v)=>k v sl
 | (some sl₁,v)=>(k v sl₁).bind fun q=>.ret (some (q.1.getD sl₁),q.2)
noncomputable def E6:RE→Option (Prop×AV)
 | .ret r=>selO r.1 (fun _=>none) (some (True,r.2))
 | .need p x=>(E6 x).bind fun q=>some (p∧q.1,q.2)
 | _=>none
noncomputable def IJ (b:Bool) (x y:AV):AV:=D0 (BF x) (BF y) (fun i j=>.sym (match b with | true=>i.1 | false=>j.1))
 (D0 (AQ x) (AQ y) (fun p q=>.sb (match b with | true=>p.1 | false=>q.1))
  (D0 (strO x) (strO y) (fun p q=>.str (match b with | true=>p | false=>q)) (.ite b x y)))
abbrev Ev:=Scope→AEnv→Expr→SL→RE
noncomputable def A8 (x:Str) (v:AV) (env:AEnv):AEnv:=(x,v) :: env.filter fun p=>!(p.1==x)
noncomputable def isK (k:Nat) (e:Expr):Bool:=Nat.beq e.ctorIdx k
noncomputable def evL (ev:Expr→SL→RE):List Expr→SL→RL
 | [],_=>.ret (none,[])
 | e :: r,sl=>AO (!isK 22 e) (seqL (ev e sl) sl fun v sl=>(evL ev r sl).bind fun q=>.ret (q.1,v :: q.2))
noncomputable def strK (c:Const):Option Str:=match c with
 | .str x=>some x
 | _=>none
noncomputable def strC (e:Expr):Option Str:=match e with
 | .Constant c _ _=>strK c
 | _=>none
noncomputable def LZ:List (Option Expr)→Option (List Str)
 | []=>some []
 | e :: r=>(e.bind strC).bind fun x=>(LZ r).bind fun m=>some (x :: m)
noncomputable def IX (op:BoolOp) (rest:RE) (v:AV):RE:=match v with
 | .bool b=>(match op,b with
  | .And,false=>.ret (none,.bool false)
  | .Or,true=>.ret (none,.bool true)
  | _,_=>rest)
 | .sb b=>(match op with
  | .And=>orO (E6 rest) (fun q=>onO (AQ q.2) fun c=>.need (b=true→q.1) (.ret (none,.sb (b&&c.1)))) (.ite b rest (.ret (none,.bool false)))
  | .Or=>orO (E6 rest) (fun q=>onO (AQ q.2) fun c=>.need (b=false→q.1) (.ret (none,.sb (b||c.1)))) (.ite b (.ret (none,.bool true)) rest))
 | _=>.fail
noncomputable def SG (op:BoolOp) (ev:Expr→SL→RE):List Expr→SL→RE
 | [],_=>.fail
 | [e],sl=>ev e sl
 | e :: e' :: r,sl=>seqE (ev e sl) sl fun v sl=>IX op (SG op ev (e' :: r) sl) v
noncomputable def lst2 {α β:Type} (l:List α) (n c:R β):R β:=match l with
 | []=>n
 | _ :: _=>c
noncomputable def cmpE (ev:Expr→SL→RE):AV→List CmpOp→List Expr→SL→RE
 | _,[],_,_=>.fail
 | left,op :: ops,es,sl=>match es with
  | []=>.fail
  | e :: es=>lst2 ops (lst2 es (AO (!behindInMarks op e) (seqE (ev e sl) sl fun v _=>DC (cmpA op left v))) .fail)
   (lst2 es .fail (seqE (ev e sl) sl fun v sl=>(cmpA op left v).bind fun c=>IX .And (cmpE ev v ops es sl) c))
noncomputable def CG:List Expr→Bool
 | []=>true
 | e :: r=>!isK 22 e&&CG r
noncomputable def NW (x:RE) (sl:SL) (t f:SL→RE):RE:=seqE x sl fun v sl=>match v with
 | .bool true=>t sl
 | .bool false=>f sl
 | .sb b=>D0 (E6 (t sl)) (E6 (f sl)) (fun p q=>.need ((b=true→p.1)∧(b=false→q.1)) (.ret (none,IJ b p.2 q.2))) (.ite b (t sl) (f sl))
 | _=>.fail
noncomputable def tupE (e:Expr):Option (List Expr):=match e with
 | .Tuple vs _ _=>some vs
 | _=>none
noncomputable def PH (e:Expr):Option Str:=match e with
 | .Name x _=>some x
 | _=>none
noncomputable def acD (x:Expr):Bool:=GS (PH x) fun n=>n==("well" : Str)
noncomputable def onDI {α:Type} (v:AV) (k:List Int→List AV→R α):R α:=match v with
 | .dI ks l=>k ks l
 | .dS ks l=>(match ks with
  | []=>(match l with
   | []=>k [] []
   | _ :: _=>.fail)
  | _ :: _=>.fail)
 | _=>.fail
noncomputable def aiV (l:List AV):R AV:=eAny l fun u r=>LY u fun a=>match r with
 | []=>.ret (.rng 0 a 1)
 | v :: r=>LY v fun b=>match r with
  | []=>.ret (.rng a b 1)
  | w :: r=>eNil r (LY w fun c=>AO (decide (0<c∧c<1000000)) (.ret (.rng a b c)))
noncomputable def lenA (sl:SL) (v:AV):R AV:=orO (NV sl v) (fun l=>AO (Nat.blt l.length 16777216) (.ret (.num l.length))) (EB v fun x=>AO (Nat.blt x.length 16777216) (.ret (.num x.length)))
noncomputable def lenI (v:AV) (g:R AV):R AV:=match v with
 | .ints l=>.need (l.length<2 ^ 62) (.ret (.sym l.length))
 | _=>g
noncomputable def H9 (a c:Int):Nat→List Int
 | 0=>[]
 | n+1=>a :: H9 (a+c) c n
def rngL (a b c:Int):List Int:=H9 a c (Builtin.Range.rangeSize a b c).toNat
noncomputable def VF (a b c:Int):Bool:=Builtin.Range.small a b c&&decide (Builtin.Range.rangeSize a b c=((Builtin.Range.rangeSize a b c).toNat:Int))&&Nat.ble (Builtin.Range.rangeSize a b c).toNat 16777216
noncomputable def HW (x:Str):List AV:=x.cps.toList.map fun c=>.str ⟨#[c]⟩
def SH:AV→Option (List AV)
 | .tup l=>some l
 | .lst l=>some l
 | .ints l=>some (l.map .sym)
 | .str x=>some (HW x)
 | .dS ks _=>some (ks.map .str)
 | .rng a b c=>bif VF a b c then some ((rngL a b c).map .num) else none
 | _=>none
noncomputable def allB:List AV→Option (Bool×Bool)
 | []=>some (true,false)
 | x :: l=>match AQ x,allB l with
  | some (b,s),some (c,t)=>some (b&&c,s||t)
  | _,_=>none
noncomputable def frzE (sl:SL) (v:AV):RE:=bif G7 v then .ret (none,v) else onO (frz 64 sl v) fun p=>AO (G7 p.2) (.ret (some p.1,p.2))
noncomputable def VG (sl:SL) (l:List AV):RL:=bif D6 l then .ret (none,l) else onO (frzL 64 sl l) fun p=>AO (D6 p.2) (.ret (some p.1,p.2))
noncomputable def SI {α:Type} (sl:SL) (n:Nat) (k:AV→R α):R α:=match sl[n]? with
 | some σ=>(match σ with
  | .own c=>k c
  | .frz _=>.fail)
 | none=>.fail
inductive BK where
 | len | range | sum | all | int | str | list
noncomputable def bkL:List (Str×BK):=[("len",.len),("range",.range),("sum",.sum),("all",.all),("int",.int),("str",.str),("list",.list)]
noncomputable def bkOf (f:Str):Option BK:=bkL.lookup f
noncomputable def NX:List Nat→Bool
 | []=>true
 | c :: l=>(c==48||c==49)&&NX l
noncomputable def IY:List Nat→Nat→Nat
 | [],acc=>acc
 | c :: l,acc=>IY l (acc*2+(c - 48))
noncomputable def ZM (k:BK) (sl:SL) (args:List AV):R AV:=match k with
 | .len=>eOne args fun v=>lenI v (lenA sl v)
 | .range=>aiV args
 | .sum=>eOne args fun v=>K1 v fun l=>.ret (.sym l.sum)
 | .all=>eOne args fun v=>J1 v fun l=>onO (allB l) fun p=>.ret (mkB p.1 p.2)
 | .int=>eAny args fun v r=>EB v fun x=>match r with
  | []=>onO (PySem.intText? x) fun i=>AO (Nat.ble x.length 640) (.ret (.num i))
  | u :: r=>eNil r (LY u fun n=>AO (decide (n=2)&&(NX x.cps.toList&&!x.cps.toList.isEmpty&&Nat.ble x.cps.toList.length 640)) (.ret (.num (IY x.cps.toList 0:Nat))))
 | .str=>eOne args fun v=>LY v fun i=>AO (Nat.blt i.natAbs 1000000) (.ret (.str (Str.ofString (toString i))))
 | .list=>eOne args fun v=>aiU v fun a b c=>AO (VF a b c) (.ret (.lst ((rngL a b c).map .num)))
inductive MK where
 | get | split | count | join | append | setdefault
noncomputable def mkL:List (Str×MK):=[("get",.get),("split",.split),("count",.count),("join",.join),("append",.append),("setdefault",.setdefault)]
noncomputable def mkOf (m:Str):Option MK:=mkL.lookup m
noncomputable def VH:AV→Bool
 | .str _=>true
 | _=>false
def onK (k:MK) (sl:SL) (o:AV):Bool:=match k with
 | .get=>(GT sl o).isSome
 | .setdefault=>(GT sl o).isSome
 | .append=>(NV sl o).isSome
 | _=>VH o
noncomputable def Q2 (k:MK) (sl:SL) (o:AV) (args:List AV):RE:=match k with
 | .get=>eAny args fun k r=>eOne r fun d=>onO (GT sl o) fun dv=>DC (getD dv k (some d))
 | .split=>EB o fun x=>eOne args fun v=>EB v fun y=>AO (Nat.blt x.length 10000&&!(y.length==0)) (.ret (none,.lst ((Txt.split x y).map .str)))
 | .count=>EB o fun x=>eOne args fun v=>EB v fun y=>.ret (none,.num (Txt.count x y))
 | .join=>EB o fun x=>eOne args fun v=>J1 v fun l=>onO (GD l) fun ts=>AO (JoinOk x ts) (.ret (none,.str (Txt.join x ts)))
 | .append=>VE o fun n=>eOne args fun v=>SI sl n fun c=>J1 c fun l=>AO (Nat.blt l.length 10000000) (.ret (some (sl.set n (.own (.lst (l++[v])))),.none))
 | .setdefault=>VE o fun n=>eAny args fun v r=>eOne r fun d=>SI sl n fun c=>onDI c fun ks l=>LY v fun x=>AO (Nat.blt ks.length 1000) (orO (PG ks l x)
   (fun v=>.ret (none,v)) (.ret (some (sl.set n (.own (.dI (ks++[x]) (l++[d])))),d)))
noncomputable def noX {α:Type}:R α→R α
 | .ret a=>.ret a
 | .ite b x y=>.ite b (noX x) (noX y)
 | .need p x=>.need p (noX x)
 | _=>.fail
def aiW (x:RE) (k:AV→RL):RL:=x.bind fun p=>match p with
 | (none,c)=>k c
 | _=>.fail
noncomputable def onB2 (c:AV) (t f:RL):RL:=match c with
 | .bool true=>t
 | .bool false=>f
 | _=>.fail
noncomputable def CU (ev:AV→SL→RE) (test:AV→SL→RE):List AV→SL→RL
 | [],_=>.ret (none,[])
 | x :: l,sl=>aiW (test x sl) fun c=>onB2 c (seqL (ev x sl) sl fun v sl=>(CU ev test l sl).bind fun q=>.ret (q.1,v :: q.2)) (CU ev test l sl)
noncomputable def ZN (ev:AV→SL→RE) (l:List Int) (sl:SL):RE:=
 .need (l.length<10000000∧∀ i∈l,∃ j,ev (.sym i) sl=.ret (none,.sym j)) (.ret (none,.ints (l.map fun i=>match ev (.sym i) sl with | .ret (none,.sym j)=>j | _=>0)))
noncomputable def ZO {α β:Type} (o:Option α) (k:R β):R β:=match o with
 | none=>k
 | some _=>.fail
noncomputable def nil1 {α β:Type} (l:List α) (k:R β):R β:=match l with
 | []=>k
 | _ :: _=>.fail
noncomputable def one1 {α β:Type} (l:List α) (k:α→R β):R β:=match l with
 | []=>.fail
 | x :: r=>nil1 r (k x)
noncomputable def cstI {β:Type} (e:Expr) (k:Int→R β):R β:=match e with
 | .Constant c _ _=>(match c with
  | .int i=>k i
  | _=>.fail)
 | _=>.fail
noncomputable def onUn {β:Type} (e:Expr) (k:UnaryOp→Expr→R β):R β:=match e with
 | .UnaryOp op x _=>k op x
 | _=>.fail
noncomputable def aiX {β:Type} (op:UnaryOp) (k:R β):R β:=match op with
 | .USub=>k
 | _=>.fail
noncomputable def acE (v:AV) (l u s:Option Expr):R AV:=ZO l (orO u
 (fun u=>ZO s (cstI u fun n=>K1 v fun l=>AO (decide (0≤n)) (.need (l.length<10000000∧n.toNat<1000000) (.ret (.ints (l.take n.toNat))))))
 (onO s fun e=>onUn e fun op x=>aiX op (cstI x fun i=>AO (decide (i=1)) (J1 v fun l=>AO (Nat.blt l.length 10000000) (.ret (.lst l.reverse))))))
noncomputable def A7 (outer:Scope) (scope:Scope):Scope:=
 { scope with names:=scope.names.map fun p=>if p.2==.free&&outer.names.lookup p.1==some .cell then (p.1,.cell) else p }
noncomputable def K2 (e:Expr):Bool:=!isK 7 e
def Q3 (outer scope:Scope) (x:Str) (iter:Expr):Bool:=
 decide (scope.kind=.function)&&scope.names.all (fun p=>!decide (p.2=.cell))&&scope.names.all (fun p=>!decide (p.2=.local)||decide (scope.names.lookup p.1=some .local))&&decide (scope.names.lookup x=some .local)&&scope.names.all (fun p=>!decide (p.2=.free)||decide (scope.names.lookup p.1=some .free))
  && scope.names.all (fun p=>!decide (p.2=.free)||decide (outer.names.lookup p.1=some .cell)||decide (outer.names.lookup p.1=some .free))&&K2 iter
noncomputable def EW (sc:Scope) (env:AEnv):AEnv:=env.filter fun p=>decide (sc.names.lookup p.1=some .cell)||decide (sc.names.lookup p.1=some .free)
noncomputable def aiY (e:Expr):Bool:=isK 24 e||isK 6 e
def VI (ev:Expr→SL→RE) (e:Expr) (sl:SL):RE:=match e with
 | .List elts _=>seqLE (evL ev elts sl) sl fun l sl=>AO (Nat.blt l.length 16777216) (.ret (some (sl++[Slot.own (.lst l)]),.loc sl.length))
 | .Dict keys values _=>(match LZ keys,decide (keys.length=values.length∧keys.length≤15) with
  | some ks,true=>(match decide ks.Nodup with
   | true=>seqLE (evL ev values sl) sl fun l sl=>.ret (some (sl++[Slot.own (.dS ks l)]),.loc sl.length)
   | false=>.fail)
  | _,_=>.fail)
 | _=>ev e sl
noncomputable def NY (ev:Expr→SL→RE) (l:List Expr) (sl:SL):RL:=evL (VI ev) l sl
noncomputable def aiZ (ev:Expr→SL→RE) (ifs:List Expr) (sl:SL):RE:=match ifs with
 | []=>.ret (none,.bool true)
 | [t]=>ev t sl
 | _=>.fail
def aeO (ev:AEnv→Expr→SL→RE) (cenv:AEnv) (x:Str) (elt:Expr) (ifs:List Expr) (src:AV) (sl:SL):RE:=
 match ifs,src with
 | [],.ints l=>ZN (fun v sl=>ev (A8 x v cenv) elt sl) l sl
 | _,_=>match SH src with
  | some items=>AO (Nat.blt items.length 10000000) (seqLE (CU (fun v sl=>ev (A8 x v cenv) elt sl) (fun v sl=>aiZ (ev (A8 x v cenv)) ifs sl) items sl) sl fun l _=>.ret (none,.lst l))
  | none=>.fail
noncomputable def ZP {α:Type} (l:List α):Option (α×List α):=match l with
 | []=>none
 | x :: r=>some (x,r)
noncomputable def acF (wf:WFn) (ev:Expr→SL→RE) (n:Nat) (rest:List Expr) (sl:SL):RE:=seqLE (evL ev rest sl) sl fun l sl=>seqLE (VG sl l) sl fun l sl=>SI sl n fun c=>J1 c fun items=>
 AO (D6 items) ((wf.spec items l).bind fun q=>.ret (some (sl.set n (.own (.lst q.1))),q.2))
noncomputable def ajA (C:Ctx) (d:Nat) (ev:Expr→SL→RE) (env:AEnv) (f:Str) (args:List Expr) (sl:SL):RE:=orO (C.wfuns.lookup f)
 (fun wf=>onO (ZP args) fun p=>onO (env.lookup ("well" : Str)) fun v=>VE v fun n=>AO (acD p.1&&Nat.blt wf.height d) (acF wf ev n p.2 sl))
 (orO (C.funs.lookup f) (fun fn=>AO (Nat.blt fn.height d) (seqLE (evL ev args sl) sl fun l sl=>seqLE (VG sl l) sl fun l _=>DC (fn.spec l)))
  (onO (bkOf f) fun k=>seqLE (evL ev args sl) sl fun l sl=>DC (ZM k sl l)))
noncomputable def Q4 (o:Expr):Bool:=match o with
 | .Call f _ _ _=>!isK 23 f
 | _=>true
def aeP (ev:Expr→SL→RE) (o:Expr) (m:Str) (apos pos:Pos) (args:List Expr) (sl:SL):RE:=
 match mkOf m,apos.endLine==pos.line&&Q4 o&&Nat.blt args.length 20&&CG args with
 | some k,true=>seqE (ev o sl) sl fun a sl=>AO (onK k sl a) (match k with
  | .setdefault=>seqLE (NY ev args sl) sl fun l sl=>Q2 k sl a l
  | _=>seqLE (evL ev args sl) sl fun l sl=>Q2 k sl a l)
 | _,_=>.fail
def aeQ (C:Ctx) (d:Nat) (ev:Expr→SL→RE) (sc:Scope) (env:AEnv) (f:Str) (args:List Expr) (sl:SL):RE:=match env.lookup f with
 | some _=>.fail
 | none=>match sc.names.lookup f,CG args&&!(f==("__debug__" : Str)) with
  | some .globalImplicit,true=>ajA C d ev env f args sl
  | _,_=>.fail
noncomputable def oneO {α:Type} (l:List α):Option α:=match l with
 | []=>none
 | x :: r=>(match r with
  | []=>some x
  | _ :: _=>none)
noncomputable def genA (ev:Ev) (sc:Scope) (env:AEnv) (elt:Expr) (gens:List Comprehension) (scope:Scope) (sl:SL):RE:=onO (oneO gens) fun g=>onO (PH g.target) fun x=>AO (g.is_async==0) (match Q3 sc scope x g.iter with
  | true=>noX (seqE (ev sc env g.iter sl) sl fun src sl=>seqE (frzE sl src) sl fun src sl=>aeO (ev (A7 sc scope)) (EW (A7 sc scope) env) x elt g.ifs src sl)
  | false=>.fail)
def aeR (C:Ctx) (d:Nat) (ev:Ev) (sc:Scope) (env:AEnv) (e:Expr) (sl:SL):RE:=
 match e with
 | .Constant c _ _=>(match c with
  | .none=>.ret (none,.none)
  | .bool b=>.ret (none,.bool b)
  | .int i=>.ret (none,.num i)
  | .str s=>.ret (none,.str s)
  | _=>.fail)
 | .Name x _=>(match x==("__debug__" : Str)||x==("__classdict__" : Str) with
  | true=>.fail
  | false=>match env.lookup x with
   | some v=>.ret (none,res sl v)
   | none=>match sc.names.lookup x with
    | some .globalImplicit=>(match C.glob.lookup x with
     | some v=>.ret (none,v)
     | none=>.fail)
    | _=>.fail)
 | .BinOp l op r _=>seqE (ev sc env l sl) sl fun a sl=>seqE (ev sc env r sl) sl fun b _=>DC (binA op a b)
 | .UnaryOp op x _=>seqE (ev sc env x sl) sl fun a _=>DC (unA op a)
 | .BoolOp op vs _=>SG op (ev sc env) vs sl
 | .Compare l ops rs _=>seqE (ev sc env l sl) sl fun a sl=>cmpE (ev sc env) a ops rs sl
 | .IfExp t b o _=>NW (ev sc env t sl) sl (ev sc env b) (ev sc env o)
 | .List elts _=>seqLE (evL (ev sc env) elts sl) sl fun l _=>AO (Nat.blt l.length 16777216) (.ret (none,.lst l))
 | .Tuple elts _ _=>seqLE (evL (ev sc env) elts sl) sl fun l _=>AO (Nat.blt l.length 16777216) (.ret (none,.tup l))
 | .Dict keys values _=>(match LZ keys,decide (keys.length=values.length∧keys.length≤15) with
  | some ks,true=>(match decide ks.Nodup with
   | true=>seqLE (evL (ev sc env) values sl) sl fun l _=>.ret (none,.dS ks l)
   | false=>.fail)
  | _,_=>.fail)
 | .Subscript v (.Slice l u s _) _=>seqE (ev sc env v sl) sl fun a _=>DC (acE a l u s)
 | .Subscript v i _=>seqE (ev sc env v sl) sl fun a sl=>seqE (ev sc env i sl) sl fun b sl=>DC (J2 sl a b)
 | .Call (.Attribute o m apos) args [] pos=>aeP (ev sc env) o m apos pos args sl
 | .Call (.Name f _) args [] _=>aeQ C d (ev sc env) sc env f args sl
 | .ListComp elt gens scope _=>genA ev sc env elt gens scope sl
 | _=>.fail
noncomputable def FA (C:Ctx) (d:Nat):Nat→Ev
 | 0=>fun _ _ _ _=>.fail
 | n+1=>aeR C d (FA C d n)
inductive Fl where
 | nxt | ret (v:AV)
abbrev RS:=R (Fl×AEnv×SL)
noncomputable def CD (sc:Scope) (x:Str):Bool:=match sc.names.lookup x with
 | some .local=>true
 | some .cell=>true
 | _=>false
noncomputable def FD (e:Expr):Bool:=!(isK 8 e||isK 9 e||isK 10 e)
noncomputable def seqO (v:AV):Option (List AV):=match v with
 | .tup l=>some l
 | .lst l=>some l
 | _=>none
noncomputable def ZQ (sc:Scope) (t:Expr) (v:AV) (env:AEnv):Option AEnv:=(PH t).bind fun x=>bif CD sc x then some (A8 x v env) else none
noncomputable def K3 (sc:Scope):List Expr→List AV→AEnv→Option AEnv
 | []=>fun vs env=>bif vs.isEmpty then some env else none
 | t :: ts=>fun vs env=>(ZP vs).bind fun p=>(ZQ sc t p.1 env).bind (K3 sc ts p.2)
noncomputable def ED (sc:Scope) (t:Expr) (v:AV) (env:AEnv):Option AEnv:=match tupE t with
 | some ts=>(seqO v).bind fun l=>K3 sc ts l env
 | none=>ZQ sc t v env
noncomputable def D8:List Expr→Option (List Str)
 | []=>some []
 | t :: r=>(PH t).bind fun x=>(D8 r).bind fun l=>some (x :: l)
def Q5 (ts vs:List Expr):Bool:=match D8 ts with
 | some xs=>decide xs.Nodup&&CG vs&&!(vs.all (constantsAlone 8))
 | none=>false
noncomputable def onLI {α:Type} (v:AV) (f:List AV→R α) (k:List Int→List AV→R α):R α:=match v with
 | .lst l=>f l
 | .dI ks l=>k ks l
 | .dS ks l=>(match ks with
  | []=>(match l with
   | []=>k [] []
   | _ :: _=>.fail)
  | _ :: _=>.fail)
 | _=>.fail
noncomputable def acG (sl:SL) (o i v:AV):R SL:=VE o fun n=>SI sl n fun c=>match i with
 | .num x=>onLI c (fun l=>AO (decide (0≤x)&&(Nat.blt x.toNat l.length&&Nat.blt l.length 16777216)) (.ret (sl.set n (.own (.lst (l.set x.toNat v))))))
   (fun ks l=>AO (Nat.blt ks.length 1000) (.ret (sl.set n (.own (.dI (putI ks l x v).1 (putI ks l x v).2)))))
 | .str x=>onDS c fun ks l=>AO (Nat.blt ks.length 1000) (.ret (sl.set n (.own (.dS (putS ks l x v).1 (putS ks l x v).2))))
 | _=>.fail
noncomputable def J3 (sc:Scope) (body:AEnv→SL→RS) (t:Expr):List AV→AEnv→SL→RS
 | [],env,sl=>.ret (.nxt,env,sl)
 | x :: l,env,sl=>match ED sc t x env with
  | none=>.fail
  | some env'=>(body env' sl).bind fun p=>match p with
   | (.nxt,env₁,sl₁)=>J3 sc body t l env₁ sl₁
   | (.ret v,env₁,sl₁)=>.ret (.ret v,env₁,sl₁)
abbrev Es:=AEnv→List Stmt→SL→RS
noncomputable def asgO (st:Stmt):Option (List Expr×Expr):=match st with
 | .Assign ts e _=>some (ts,e)
 | _=>none
def VJ (sc:Scope) (ev:Expr→SL→RE) (t value:Expr) (env:AEnv) (sl:SL):RS:=match t with
 | .Name x _=>AO (CD sc x&&FD value) ((VI ev value sl).bind fun p=>.ret (.nxt,A8 x p.2 env,p.1.getD sl))
 | .Tuple ts _ _=>orO (tupE value)
   (fun vs=>AO (Q5 ts vs&&Nat.blt vs.length 1000) ((NY ev vs sl).bind fun p=>onO (K3 sc ts p.2 env) fun env'=>.ret (.nxt,env',p.1.getD sl)))
   (AO (FD value) ((ev value sl).bind fun p=>onO (ED sc t p.2 env) fun env'=>.ret (.nxt,env',p.1.getD sl)))
 | .Subscript o i _=>AO (FD value) ((ev value sl).bind fun p=>(ev o (p.1.getD sl)).bind fun q=>(ev i (q.1.getD (p.1.getD sl))).bind fun r=>
    (acG (r.1.getD (q.1.getD (p.1.getD sl))) q.2 r.2 p.2).bind fun sl'=>.ret (.nxt,env,sl'))
 | _=>.fail
noncomputable def aqK (sc:Scope) (ev:Expr→SL→RE) (env:AEnv) (body orelse:List Stmt) (b:Bool) (sl:SL):Option RS:=
 (oneO body).bind fun st=>(asgO st).bind fun p=>(oneO p.1).bind fun t=>(PH t).bind fun x=>(E6 (ev p.2 sl)).bind fun q=>(env.lookup x).bind fun u=>
  bif orelse.isEmpty&&(!aiY p.2&&(CD sc x&&FD p.2)) then some (.need (b=true→q.1) (.ret (.nxt,A8 x (IJ b q.2 u) env,sl))) else none
noncomputable def onTF {α:Type} (v:AV) (f g:Bool→R α):R α:=match v with
 | .bool b=>f b
 | .sb b=>g b
 | _=>.fail
noncomputable def ajB {α:Type} (v:AV) (k:R α):R α:=match v with
 | .none=>k
 | _=>.fail
noncomputable def aeS {β:Type} (e:Expr) (k:Str→List Expr→R β):R β:=match e with
 | .Call f args kws _=>onO (PH f) fun f=>nil1 kws (k f args)
 | _=>.fail
noncomputable def ifA (sc:Scope) (ev:Expr→SL→RE) (es:Es) (env:AEnv) (test:Expr) (body orelse:List Stmt) (sl:SL):RS:=(ev test sl).bind fun p=>onTF p.2
 (fun b=>es env (bif b then body else orelse) (p.1.getD sl))
 (fun b=>orO (aqK sc ev env body orelse b (p.1.getD sl)) (fun r=>r) (.ite b (es env body (p.1.getD sl)) (es env orelse (p.1.getD sl))))
noncomputable def forA (sc:Scope) (ev:Expr→SL→RE) (es:Es) (env:AEnv) (t iter:Expr) (body:List Stmt) (sl:SL):RS:=(ev iter sl).bind fun p=>(frzE (p.1.getD sl) p.2).bind fun q=>onO (SH q.2) fun items=>
 J3 sc (fun env sl=>es env body sl) t items env (q.1.getD (p.1.getD sl))
noncomputable def IK (C:Ctx) (d:Nat) (n:Nat) (sc:Scope) (es:Es) (env:AEnv) (st:Stmt) (sl:SL):RS:=
 let ev:Expr→SL→RE:=FA C d n sc env
 match st with
 | .Assign ts value _=>one1 ts fun t=>VJ sc ev t value env sl
 | .Return v _=>onO v fun e=>(ev e sl).bind fun p=>.ret (.ret p.2,env,p.1.getD sl)
 | .Expr e _=>AO (FD e) ((ev e sl).bind fun p=>ajB p.2 (.ret (.nxt,env,p.1.getD sl)))
 | .If test body orelse _=>ifA sc ev es env test body orelse sl
 | .For t iter body orelse _=>nil1 orelse (AO (K2 iter) (forA sc ev es env t iter body sl))
 | .Raise e c _=>onO e fun e=>ZO c (aeS e fun f args=>AO (C.raise&&(f==("AssemblyFault" : Str))&&CG args&&Nat.beq args.length 2) ((evL ev args sl).bind fun _=>.exc))
 | _=>.fail
def seqS (x:RS) (k:AEnv→SL→RS):RS:=x.bind fun p=>match p with
 | (.nxt,env,sl)=>k env sl
 | (.ret v,env,sl)=>.ret (.ret v,env,sl)
noncomputable def BQ (C:Ctx) (d:Nat) (sc:Scope):Nat→Es
 | 0=>fun _ _ _=>.fail
 | n+1=>fun env st sl=>match st with
  | []=>.ret (.nxt,env,sl)
  | s :: r=>seqS (IK C d n sc (BQ C d sc n) env s sl) fun env sl=>BQ C d sc n env r sl
def runF (C:Ctx) (d:Nat) (n:Nat) (sc:Scope) (body:List Stmt) (env:AEnv):R AV:=
 (BQ C d sc n env body []).bind fun p=>match p with
  | (.ret v,_,sl)=>(frzE sl v).bind fun q=>.ret q.2
  | (.nxt,_,_)=>.ret .none
def runW (C:Ctx) (d:Nat) (n:Nat) (sc:Scope) (body:List Stmt) (env:AEnv) (well:List AV):R (List AV×AV):=
 (BQ C d sc n env body [.own (.lst well)]).bind fun p=>match p with
  | (.ret v,_,sl)=>(frzE sl v).bind fun q=>match (q.1.getD sl)[0]? with
   | some (Slot.own (.lst l))=>(match D6 l with
    | true=>.ret (l,q.2)
    | false=>.fail)
   | _=>.fail
  | (.nxt,_,_)=>.fail
end
end Mine
end
section
namespace Mine
section
noncomputable def EX:AV:=(.lst [.str "zero",.str "ra",.str "sp",.str "gp",.str "tp",.str "t0",.str "t1",.str "t2",.str "s0",.str "s1",.str "a0",.str "a1",.str "a2",.str "a3",.str "a4",.str "a5",.str "a6",.str "a7",.str "s2",.str "s3",.str "s4",.str "s5",.str "s6",.str "s7",.str "s8",.str "s9",.str "s10",.str "s11",.str "t3",.str "t4",.str "t5",.str "t6"])
noncomputable def ajC:AV:=(.num (55))
noncomputable def VK:AV:=(.num (23))
noncomputable def ajD:AV:=(.num (111))
noncomputable def K4:AV:=(.num (19))
noncomputable def K5:AV:=(.num (51))
noncomputable def VL:AV:=(.num (15))
noncomputable def Q6:AV:=(.num (115))
noncomputable def CH:AV:=(.dS [Str.ofString "lui",Str.ofString "auipc",Str.ofString "jal",Str.ofString "jalr",Str.ofString "beq",Str.ofString "bne",Str.ofString "blt",Str.ofString "bge",Str.ofString "bltu",Str.ofString "bgeu",Str.ofString "lb",Str.ofString "lh",Str.ofString "lw",Str.ofString "lbu",Str.ofString "lhu",Str.ofString "sb",Str.ofString "sh",Str.ofString "sw",Str.ofString "addi",Str.ofString "slti",Str.ofString "sltiu",Str.ofString "xori",Str.ofString "ori",Str.ofString "andi",Str.ofString "slli",Str.ofString "srli",Str.ofString "srai",Str.ofString "add",Str.ofString "sub",Str.ofString "sll",Str.ofString "slt",Str.ofString "sltu",Str.ofString "xor",Str.ofString "srl",Str.ofString "sra",Str.ofString "or",Str.ofString "and",Str.ofString "mul",Str.ofString "mulh",Str.ofString "mulhsu",Str.ofString "mulhu",Str.ofString "div",Str.ofString "divu",Str.ofString "rem",Str.ofString "remu",Str.ofString "fence",Str.ofString "ecall",Str.ofString "ebreak"] [.tup [.str "U",.num 55],.tup [.str "U",.num 23],.tup [.str "J",.num 111],.tup [.str "I",.num 103],.tup [.str "B",.num 99],.tup [.str "B",.num 4195],.tup [.str "B",.num 16483],.tup [.str "B",.num 20579],.tup [.str "B",.num 24675],.tup [.str "B",.num 28771],.tup [.str "I",.num 3],.tup [.str "I",.num 4099],.tup [.str "I",.num 8195],.tup [.str "I",.num 16387],.tup [.str "I",.num 20483],.tup [.str "S",.num 35],.tup [.str "S",.num 4131],.tup [.str "S",.num 8227],.tup [.str "I",.num 19],.tup [.str "I",.num 8211],.tup [.str "I",.num 12307],.tup [.str "I",.num 16403],.tup [.str "I",.num 24595],.tup [.str "I",.num 28691],.tup [.str "H",.num 4115],.tup [.str "H",.num 20499],.tup [.str "H",.num 1073762323],.tup [.str "R",.num 51],.tup [.str "R",.num 1073741875],.tup [.str "R",.num 4147],.tup [.str "R",.num 8243],.tup [.str "R",.num 12339],.tup [.str "R",.num 16435],.tup [.str "R",.num 20531],.tup [.str "R",.num 1073762355],.tup [.str "R",.num 24627],.tup [.str "R",.num 28723],.tup [.str "R",.num 33554483],.tup [.str "R",.num 33558579],.tup [.str "R",.num 33562675],.tup [.str "R",.num 33566771],.tup [.str "R",.num 33570867],.tup [.str "R",.num 33574963],.tup [.str "R",.num 33579059],.tup [.str "R",.num 33583155],.tup [.str "F",.num 15],.tup [.str "E",.num 115],.tup [.str "E",.num 1048691]])
noncomputable def L4:AV:=(.dS ["R","I","H","S","B","U","J","F","E"] [(.tup [.tup [.str "rd",.num 7],.tup [.str "rs1",.num 15],.tup [.str "rs2",.num 20]]),(.tup [.tup [.str "rd",.num 7],.tup [.str "rs1",.num 15]]),(.tup [.tup [.str "rd",.num 7],.tup [.str "rs1",.num 15]]),(.tup [.tup [.str "rs1",.num 15],.tup [.str "rs2",.num 20]]),(.tup [.tup [.str "rs1",.num 15],.tup [.str "rs2",.num 20]]),(.tup [.tup [.str "rd",.num 7]]),(.tup [.tup [.str "rd",.num 7]]),.tup [],.tup []])
noncomputable def G9:AV:=(.dS ["I","H","S","B","U","J","F"] [.tup [.num (-2048),.num 2047,.num 1],.tup [.num 0,.num 31,.num 1],.tup [.num (-2048),.num 2047,.num 1],.tup [.num (-4096),.num 4094,.num 2],.tup [.num 0,.num 1048575,.num 1],.tup [.num (-1048576),.num 1048574,.num 2],.tup [.num 0,.num 255,.num 1]])
noncomputable def CV:AV:=(.dS [Str.ofString "fp",Str.ofString "zero",Str.ofString "x0",Str.ofString "ra",Str.ofString "x1",Str.ofString "sp",Str.ofString "x2",Str.ofString "gp",Str.ofString "x3",Str.ofString "tp",Str.ofString "x4",Str.ofString "t0",Str.ofString "x5",Str.ofString "t1",Str.ofString "x6",Str.ofString "t2",Str.ofString "x7",Str.ofString "s0",Str.ofString "x8",Str.ofString "s1",Str.ofString "x9",Str.ofString "a0",Str.ofString "x10",Str.ofString "a1",Str.ofString "x11",Str.ofString "a2",Str.ofString "x12",Str.ofString "a3",Str.ofString "x13",Str.ofString "a4",Str.ofString "x14",Str.ofString "a5",Str.ofString "x15",Str.ofString "a6",Str.ofString "x16",Str.ofString "a7",Str.ofString "x17",Str.ofString "s2",Str.ofString "x18",Str.ofString "s3",Str.ofString "x19",Str.ofString "s4",Str.ofString "x20",Str.ofString "s5",Str.ofString "x21",Str.ofString "s6",Str.ofString "x22",Str.ofString "s7",Str.ofString "x23",Str.ofString "s8",Str.ofString "x24",Str.ofString "s9",Str.ofString "x25",Str.ofString "s10",Str.ofString "x26",Str.ofString "s11",Str.ofString "x27",Str.ofString "t3",Str.ofString "x28",Str.ofString "t4",Str.ofString "x29",Str.ofString "t5",Str.ofString "x30",Str.ofString "t6",Str.ofString "x31"] [.num 8,.num 0,.num 0,.num 1,.num 1,.num 2,.num 2,.num 3,.num 3,.num 4,.num 4,.num 5,.num 5,.num 6,.num 6,.num 7,.num 7,.num 8,.num 8,.num 9,.num 9,.num 10,.num 10,.num 11,.num 11,.num 12,.num 12,.num 13,.num 13,.num 14,.num 14,.num 15,.num 15,.num 16,.num 16,.num 17,.num 17,.num 18,.num 18,.num 19,.num 19,.num 20,.num 20,.num 21,.num 21,.num 22,.num 22,.num 23,.num 23,.num 24,.num 24,.num 25,.num 25,.num 26,.num 26,.num 27,.num 27,.num 28,.num 28,.num 29,.num 29,.num 30,.num 30,.num 31,.num 31])
noncomputable def DP:AV:=(.dI [55,23,111,103,99,4195,16483,20579,24675,28771,3,4099,8195,16387,20483,35,4131,8227,19,8211,12307,16403,24595,28691,4115,20499,1073762323,51,1073741875,4147,8243,12339,16435,20531,1073762355,24627,28723,33554483,33558579,33562675,33566771,33570867,33574963,33579059,33583155,15,115,1048691] [.str "lui",.str "auipc",.str "jal",.str "jalr",.str "beq",.str "bne",.str "blt",.str "bge",.str "bltu",.str "bgeu",.str "lb",.str "lh",.str "lw",.str "lbu",.str "lhu",.str "sb",.str "sh",.str "sw",.str "addi",.str "slti",.str "sltiu",.str "xori",.str "ori",.str "andi",.str "slli",.str "srli",.str "srai",.str "add",.str "sub",.str "sll",.str "slt",.str "sltu",.str "xor",.str "srl",.str "sra",.str "or",.str "and",.str "mul",.str "mulh",.str "mulhsu",.str "mulhu",.str "div",.str "divu",.str "rem",.str "remu",.str "fence",.str "ecall",.str "ebreak"])
noncomputable def GU:AV:=(.dS [Str.ofString "B",Str.ofString "J"] [(.lst [(.num (12)),(.num (10)),(.num (9)),(.num (8)),(.num (7)),(.num (6)),(.num (5)),(.num (4)),(.num (3)),(.num (2)),(.num (1)),(.num (11))]),(.lst [(.num (20)),(.num (10)),(.num (9)),(.num (8)),(.num (7)),(.num (6)),(.num (5)),(.num (4)),(.num (3)),(.num (2)),(.num (1)),(.num (11)),(.num (19)),(.num (18)),(.num (17)),(.num (16)),(.num (15)),(.num (14)),(.num (13)),(.num (12))])])
def globs:List (Str×AV):=[(Str.ofString "REGISTER_NAMES",EX),(Str.ofString "LUI",ajC),(Str.ofString "AUIPC",VK),(Str.ofString "JAL",ajD),(Str.ofString "WITH_IMM",K4),(Str.ofString "WITH_REG",K5),(Str.ofString "FENCE",VL),(Str.ofString "SYSTEM",Q6),(Str.ofString "INSTRUCTIONS",CH),(Str.ofString "PLACES",L4),(Str.ofString "BOUNDS",G9),(Str.ofString "REGISTER_NUMBERS",CV),(Str.ofString "NAMES_BY_BASE",DP),(Str.ofString "_law_turns",GU)]
end
end Mine
end
section
namespace Mine
section
noncomputable def v_P:AV:=(.dS ["R","I","H","S","B","U","J","F","E"] [.str "zzzzzzztttttsssssyyydddddxxxxxxx",.str "iiiiiiiiiiiisssssyyydddddxxxxxxx",.str "zzzzzzziiiiisssssyyydddddxxxxxxx",.str "iiiiiiitttttsssssyyyiiiiixxxxxxx",.str "iiiiiiitttttsssssyyyiiiiixxxxxxx",.str "iiiiiiiiiiiiiiiiiiiidddddxxxxxxx",.str "iiiiiiiiiiiiiiiiiiiidddddxxxxxxx",.str "zzzziiiiiiiizzzzzyyyzzzzzxxxxxxx",.str "zzzzzzzzzzzzzzzzzzzzzzzzzxxxxxxx"])
noncomputable def v_G:AV:=(.lst [.tup [.str "U",.num 55,.str "lui 0 0"],.tup [.str "U",.num 23,.str "auipc 0 0"],.tup [.str "J",.num 111,.str "jal 0 0"],.tup [.str "I",.num 103,.str "jalr 0 0"],.tup [.str "B",.num 99,.str "beq 0 0 bne 1 0 blt 4 0 bge 5 0 bltu 6 0 bgeu 7 0"],.tup [.str "I",.num 3,.str "lb 0 0 lh 1 0 lw 2 0 lbu 4 0 lhu 5 0"],.tup [.str "S",.num 35,.str "sb 0 0 sh 1 0 sw 2 0"],.tup [.str "I",.num 19,.str "addi 0 0 slti 2 0 sltiu 3 0 xori 4 0 ori 6 0 andi 7 0"],.tup [.str "H",.num 19,.str "slli 1 0 srli 5 0 srai 5 32"],.tup [.str "F",.num 15,.str "fence 0 0"],.tup [.str "E",.num 115,.str "ecall 0 0 ebreak 0 8192"],.tup [.str "R",.num 51,.str "add 0 0 sub 0 32 sll 1 0 slt 2 0 sltu 3 0 xor 4 0 srl 5 0 sra 5 32 or 6 0 and 7 0"],.tup [.str "R",.num 51,.str "mul 0 1 mulh 1 1 mulhsu 2 1 mulhu 3 1 div 4 1 divu 5 1 rem 6 1 remu 7 1"]])
noncomputable def v_K:AV:=(.lst [.tup [.str "d",.str "rd"],.tup [.str "s",.str "rs1"],.tup [.str "t",.str "rs2"],.tup [.str "i",.str "imm"]])
noncomputable def v_W:AV:=(.lst [.str "",.str "x32",.str "x00",.str "x-1",.str "X1",.str "a8",.str "s12",.str "t7",.str "ra ",.str "f0",.str "pc",.str "x",.str "Zero",.str "sp0"])
noncomputable def v_N:AV:=(.lst [.str "",.str "nop",.str "ADDI",.str "lwu",.str "addi ",.str "sd"])
noncomputable def HA:AV:=(.lst [(.tup [.str "lui",.str "U",(.dS ["x","y","z"] [.num 55,.num 0,.num 0])]),(.tup [.str "auipc",.str "U",(.dS ["x","y","z"] [.num 23,.num 0,.num 0])]),(.tup [.str "jal",.str "J",(.dS ["x","y","z"] [.num 111,.num 0,.num 0])]),(.tup [.str "jalr",.str "I",(.dS ["x","y","z"] [.num 103,.num 0,.num 0])]),(.tup [.str "beq",.str "B",(.dS ["x","y","z"] [.num 99,.num 0,.num 0])]),(.tup [.str "bne",.str "B",(.dS ["x","y","z"] [.num 99,.num 1,.num 0])]),(.tup [.str "blt",.str "B",(.dS ["x","y","z"] [.num 99,.num 4,.num 0])]),(.tup [.str "bge",.str "B",(.dS ["x","y","z"] [.num 99,.num 5,.num 0])]),(.tup [.str "bltu",.str "B",(.dS ["x","y","z"] [.num 99,.num 6,.num 0])]),(.tup [.str "bgeu",.str "B",(.dS ["x","y","z"] [.num 99,.num 7,.num 0])]),(.tup [.str "lb",.str "I",(.dS ["x","y","z"] [.num 3,.num 0,.num 0])]),(.tup [.str "lh",.str "I",(.dS ["x","y","z"] [.num 3,.num 1,.num 0])]),(.tup [.str "lw",.str "I",(.dS ["x","y","z"] [.num 3,.num 2,.num 0])]),(.tup [.str "lbu",.str "I",(.dS ["x","y","z"] [.num 3,.num 4,.num 0])]),(.tup [.str "lhu",.str "I",(.dS ["x","y","z"] [.num 3,.num 5,.num 0])]),(.tup [.str "sb",.str "S",(.dS ["x","y","z"] [.num 35,.num 0,.num 0])]),(.tup [.str "sh",.str "S",(.dS ["x","y","z"] [.num 35,.num 1,.num 0])]),(.tup [.str "sw",.str "S",(.dS ["x","y","z"] [.num 35,.num 2,.num 0])]),(.tup [.str "addi",.str "I",(.dS ["x","y","z"] [.num 19,.num 0,.num 0])]),(.tup [.str "slti",.str "I",(.dS ["x","y","z"] [.num 19,.num 2,.num 0])]),(.tup [.str "sltiu",.str "I",(.dS ["x","y","z"] [.num 19,.num 3,.num 0])]),(.tup [.str "xori",.str "I",(.dS ["x","y","z"] [.num 19,.num 4,.num 0])]),(.tup [.str "ori",.str "I",(.dS ["x","y","z"] [.num 19,.num 6,.num 0])]),(.tup [.str "andi",.str "I",(.dS ["x","y","z"] [.num 19,.num 7,.num 0])]),(.tup [.str "slli",.str "H",(.dS ["x","y","z"] [.num 19,.num 1,.num 0])]),(.tup [.str "srli",.str "H",(.dS ["x","y","z"] [.num 19,.num 5,.num 0])]),(.tup [.str "srai",.str "H",(.dS ["x","y","z"] [.num 19,.num 5,.num 32])]),(.tup [.str "fence",.str "F",(.dS ["x","y","z"] [.num 15,.num 0,.num 0])]),(.tup [.str "ecall",.str "E",(.dS ["x","y","z"] [.num 115,.num 0,.num 0])]),(.tup [.str "ebreak",.str "E",(.dS ["x","y","z"] [.num 115,.num 0,.num 8192])]),(.tup [.str "add",.str "R",(.dS ["x","y","z"] [.num 51,.num 0,.num 0])]),(.tup [.str "sub",.str "R",(.dS ["x","y","z"] [.num 51,.num 0,.num 32])]),(.tup [.str "sll",.str "R",(.dS ["x","y","z"] [.num 51,.num 1,.num 0])]),(.tup [.str "slt",.str "R",(.dS ["x","y","z"] [.num 51,.num 2,.num 0])]),(.tup [.str "sltu",.str "R",(.dS ["x","y","z"] [.num 51,.num 3,.num 0])]),(.tup [.str "xor",.str "R",(.dS ["x","y","z"] [.num 51,.num 4,.num 0])]),(.tup [.str "srl",.str "R",(.dS ["x","y","z"] [.num 51,.num 5,.num 0])]),(.tup [.str "sra",.str "R",(.dS ["x","y","z"] [.num 51,.num 5,.num 32])]),(.tup [.str "or",.str "R",(.dS ["x","y","z"] [.num 51,.num 6,.num 0])]),(.tup [.str "and",.str "R",(.dS ["x","y","z"] [.num 51,.num 7,.num 0])]),(.tup [.str "mul",.str "R",(.dS ["x","y","z"] [.num 51,.num 0,.num 1])]),(.tup [.str "mulh",.str "R",(.dS ["x","y","z"] [.num 51,.num 1,.num 1])]),(.tup [.str "mulhsu",.str "R",(.dS ["x","y","z"] [.num 51,.num 2,.num 1])]),(.tup [.str "mulhu",.str "R",(.dS ["x","y","z"] [.num 51,.num 3,.num 1])]),(.tup [.str "div",.str "R",(.dS ["x","y","z"] [.num 51,.num 4,.num 1])]),(.tup [.str "divu",.str "R",(.dS ["x","y","z"] [.num 51,.num 5,.num 1])]),(.tup [.str "rem",.str "R",(.dS ["x","y","z"] [.num 51,.num 6,.num 1])]),(.tup [.str "remu",.str "R",(.dS ["x","y","z"] [.num 51,.num 7,.num 1])])])
noncomputable def EY:AV:=(.dI [55,23,111,103,99,3,35,19,15,115,51] [(.lst [.tup [.str "lui",.str "U",.num 127,.num 55]]),(.lst [.tup [.str "auipc",.str "U",.num 127,.num 23]]),(.lst [.tup [.str "jal",.str "J",.num 127,.num 111]]),(.lst [.tup [.str "jalr",.str "I",.num 28799,.num 103]]),(.lst [.tup [.str "beq",.str "B",.num 28799,.num 99],.tup [.str "bne",.str "B",.num 28799,.num 4195],.tup [.str "blt",.str "B",.num 28799,.num 16483],.tup [.str "bge",.str "B",.num 28799,.num 20579],.tup [.str "bltu",.str "B",.num 28799,.num 24675],.tup [.str "bgeu",.str "B",.num 28799,.num 28771]]),(.lst [.tup [.str "lb",.str "I",.num 28799,.num 3],.tup [.str "lh",.str "I",.num 28799,.num 4099],.tup [.str "lw",.str "I",.num 28799,.num 8195],.tup [.str "lbu",.str "I",.num 28799,.num 16387],.tup [.str "lhu",.str "I",.num 28799,.num 20483]]),(.lst [.tup [.str "sb",.str "S",.num 28799,.num 35],.tup [.str "sh",.str "S",.num 28799,.num 4131],.tup [.str "sw",.str "S",.num 28799,.num 8227]]),(.lst [.tup [.str "addi",.str "I",.num 28799,.num 19],.tup [.str "slti",.str "I",.num 28799,.num 8211],.tup [.str "sltiu",.str "I",.num 28799,.num 12307],.tup [.str "xori",.str "I",.num 28799,.num 16403],.tup [.str "ori",.str "I",.num 28799,.num 24595],.tup [.str "andi",.str "I",.num 28799,.num 28691],.tup [.str "slli",.str "H",.num 4261441663,.num 4115],.tup [.str "srli",.str "H",.num 4261441663,.num 20499],.tup [.str "srai",.str "H",.num 4261441663,.num 1073762323]]),(.lst [.tup [.str "fence",.str "F",.num 4027580415,.num 15]]),(.lst [.tup [.str "ecall",.str "E",.num 4294967295,.num 115],.tup [.str "ebreak",.str "E",.num 4294967295,.num 1048691]]),(.lst [.tup [.str "add",.str "R",.num 4261441663,.num 51],.tup [.str "sub",.str "R",.num 4261441663,.num 1073741875],.tup [.str "sll",.str "R",.num 4261441663,.num 4147],.tup [.str "slt",.str "R",.num 4261441663,.num 8243],.tup [.str "sltu",.str "R",.num 4261441663,.num 12339],.tup [.str "xor",.str "R",.num 4261441663,.num 16435],.tup [.str "srl",.str "R",.num 4261441663,.num 20531],.tup [.str "sra",.str "R",.num 4261441663,.num 1073762355],.tup [.str "or",.str "R",.num 4261441663,.num 24627],.tup [.str "and",.str "R",.num 4261441663,.num 28723],.tup [.str "mul",.str "R",.num 4261441663,.num 33554483],.tup [.str "mulh",.str "R",.num 4261441663,.num 33558579],.tup [.str "mulhsu",.str "R",.num 4261441663,.num 33562675],.tup [.str "mulhu",.str "R",.num 4261441663,.num 33566771],.tup [.str "div",.str "R",.num 4261441663,.num 33570867],.tup [.str "divu",.str "R",.num 4261441663,.num 33574963],.tup [.str "rem",.str "R",.num 4261441663,.num 33579059],.tup [.str "remu",.str "R",.num 4261441663,.num 33583155]])])
noncomputable def v_BR:AV:=(.lst [.tup [.str "z",.num 6],.tup [.str "z",.num 5],.tup [.str "z",.num 4],.tup [.str "z",.num 3],.tup [.str "z",.num 2],.tup [.str "z",.num 1],.tup [.str "z",.num 0],.tup [.str "t",.num 4],.tup [.str "t",.num 3],.tup [.str "t",.num 2],.tup [.str "t",.num 1],.tup [.str "t",.num 0],.tup [.str "s",.num 4],.tup [.str "s",.num 3],.tup [.str "s",.num 2],.tup [.str "s",.num 1],.tup [.str "s",.num 0],.tup [.str "y",.num 2],.tup [.str "y",.num 1],.tup [.str "y",.num 0],.tup [.str "d",.num 4],.tup [.str "d",.num 3],.tup [.str "d",.num 2],.tup [.str "d",.num 1],.tup [.str "d",.num 0],.tup [.str "x",.num 6],.tup [.str "x",.num 5],.tup [.str "x",.num 4],.tup [.str "x",.num 3],.tup [.str "x",.num 2],.tup [.str "x",.num 1],.tup [.str "x",.num 0]])
noncomputable def v_BI:AV:=(.lst [.tup [.str "i",.num 11],.tup [.str "i",.num 10],.tup [.str "i",.num 9],.tup [.str "i",.num 8],.tup [.str "i",.num 7],.tup [.str "i",.num 6],.tup [.str "i",.num 5],.tup [.str "i",.num 4],.tup [.str "i",.num 3],.tup [.str "i",.num 2],.tup [.str "i",.num 1],.tup [.str "i",.num 0],.tup [.str "s",.num 4],.tup [.str "s",.num 3],.tup [.str "s",.num 2],.tup [.str "s",.num 1],.tup [.str "s",.num 0],.tup [.str "y",.num 2],.tup [.str "y",.num 1],.tup [.str "y",.num 0],.tup [.str "d",.num 4],.tup [.str "d",.num 3],.tup [.str "d",.num 2],.tup [.str "d",.num 1],.tup [.str "d",.num 0],.tup [.str "x",.num 6],.tup [.str "x",.num 5],.tup [.str "x",.num 4],.tup [.str "x",.num 3],.tup [.str "x",.num 2],.tup [.str "x",.num 1],.tup [.str "x",.num 0]])
noncomputable def v_BH:AV:=(.lst [.tup [.str "z",.num 6],.tup [.str "z",.num 5],.tup [.str "z",.num 4],.tup [.str "z",.num 3],.tup [.str "z",.num 2],.tup [.str "z",.num 1],.tup [.str "z",.num 0],.tup [.str "i",.num 4],.tup [.str "i",.num 3],.tup [.str "i",.num 2],.tup [.str "i",.num 1],.tup [.str "i",.num 0],.tup [.str "s",.num 4],.tup [.str "s",.num 3],.tup [.str "s",.num 2],.tup [.str "s",.num 1],.tup [.str "s",.num 0],.tup [.str "y",.num 2],.tup [.str "y",.num 1],.tup [.str "y",.num 0],.tup [.str "d",.num 4],.tup [.str "d",.num 3],.tup [.str "d",.num 2],.tup [.str "d",.num 1],.tup [.str "d",.num 0],.tup [.str "x",.num 6],.tup [.str "x",.num 5],.tup [.str "x",.num 4],.tup [.str "x",.num 3],.tup [.str "x",.num 2],.tup [.str "x",.num 1],.tup [.str "x",.num 0]])
noncomputable def v_BS:AV:=(.lst [.tup [.str "i",.num 11],.tup [.str "i",.num 10],.tup [.str "i",.num 9],.tup [.str "i",.num 8],.tup [.str "i",.num 7],.tup [.str "i",.num 6],.tup [.str "i",.num 5],.tup [.str "t",.num 4],.tup [.str "t",.num 3],.tup [.str "t",.num 2],.tup [.str "t",.num 1],.tup [.str "t",.num 0],.tup [.str "s",.num 4],.tup [.str "s",.num 3],.tup [.str "s",.num 2],.tup [.str "s",.num 1],.tup [.str "s",.num 0],.tup [.str "y",.num 2],.tup [.str "y",.num 1],.tup [.str "y",.num 0],.tup [.str "i",.num 4],.tup [.str "i",.num 3],.tup [.str "i",.num 2],.tup [.str "i",.num 1],.tup [.str "i",.num 0],.tup [.str "x",.num 6],.tup [.str "x",.num 5],.tup [.str "x",.num 4],.tup [.str "x",.num 3],.tup [.str "x",.num 2],.tup [.str "x",.num 1],.tup [.str "x",.num 0]])
noncomputable def v_BB:AV:=(.lst [.tup [.str "i",.num 12],.tup [.str "i",.num 10],.tup [.str "i",.num 9],.tup [.str "i",.num 8],.tup [.str "i",.num 7],.tup [.str "i",.num 6],.tup [.str "i",.num 5],.tup [.str "t",.num 4],.tup [.str "t",.num 3],.tup [.str "t",.num 2],.tup [.str "t",.num 1],.tup [.str "t",.num 0],.tup [.str "s",.num 4],.tup [.str "s",.num 3],.tup [.str "s",.num 2],.tup [.str "s",.num 1],.tup [.str "s",.num 0],.tup [.str "y",.num 2],.tup [.str "y",.num 1],.tup [.str "y",.num 0],.tup [.str "i",.num 4],.tup [.str "i",.num 3],.tup [.str "i",.num 2],.tup [.str "i",.num 1],.tup [.str "i",.num 11],.tup [.str "x",.num 6],.tup [.str "x",.num 5],.tup [.str "x",.num 4],.tup [.str "x",.num 3],.tup [.str "x",.num 2],.tup [.str "x",.num 1],.tup [.str "x",.num 0]])
noncomputable def v_BU:AV:=(.lst [.tup [.str "i",.num 19],.tup [.str "i",.num 18],.tup [.str "i",.num 17],.tup [.str "i",.num 16],.tup [.str "i",.num 15],.tup [.str "i",.num 14],.tup [.str "i",.num 13],.tup [.str "i",.num 12],.tup [.str "i",.num 11],.tup [.str "i",.num 10],.tup [.str "i",.num 9],.tup [.str "i",.num 8],.tup [.str "i",.num 7],.tup [.str "i",.num 6],.tup [.str "i",.num 5],.tup [.str "i",.num 4],.tup [.str "i",.num 3],.tup [.str "i",.num 2],.tup [.str "i",.num 1],.tup [.str "i",.num 0],.tup [.str "d",.num 4],.tup [.str "d",.num 3],.tup [.str "d",.num 2],.tup [.str "d",.num 1],.tup [.str "d",.num 0],.tup [.str "x",.num 6],.tup [.str "x",.num 5],.tup [.str "x",.num 4],.tup [.str "x",.num 3],.tup [.str "x",.num 2],.tup [.str "x",.num 1],.tup [.str "x",.num 0]])
noncomputable def v_BJ:AV:=(.lst [.tup [.str "i",.num 20],.tup [.str "i",.num 10],.tup [.str "i",.num 9],.tup [.str "i",.num 8],.tup [.str "i",.num 7],.tup [.str "i",.num 6],.tup [.str "i",.num 5],.tup [.str "i",.num 4],.tup [.str "i",.num 3],.tup [.str "i",.num 2],.tup [.str "i",.num 1],.tup [.str "i",.num 11],.tup [.str "i",.num 19],.tup [.str "i",.num 18],.tup [.str "i",.num 17],.tup [.str "i",.num 16],.tup [.str "i",.num 15],.tup [.str "i",.num 14],.tup [.str "i",.num 13],.tup [.str "i",.num 12],.tup [.str "d",.num 4],.tup [.str "d",.num 3],.tup [.str "d",.num 2],.tup [.str "d",.num 1],.tup [.str "d",.num 0],.tup [.str "x",.num 6],.tup [.str "x",.num 5],.tup [.str "x",.num 4],.tup [.str "x",.num 3],.tup [.str "x",.num 2],.tup [.str "x",.num 1],.tup [.str "x",.num 0]])
noncomputable def v_BF:AV:=(.lst [.tup [.str "z",.num 13],.tup [.str "z",.num 12],.tup [.str "z",.num 11],.tup [.str "z",.num 10],.tup [.str "i",.num 7],.tup [.str "i",.num 6],.tup [.str "i",.num 5],.tup [.str "i",.num 4],.tup [.str "i",.num 3],.tup [.str "i",.num 2],.tup [.str "i",.num 1],.tup [.str "i",.num 0],.tup [.str "z",.num 9],.tup [.str "z",.num 8],.tup [.str "z",.num 7],.tup [.str "z",.num 6],.tup [.str "z",.num 5],.tup [.str "y",.num 2],.tup [.str "y",.num 1],.tup [.str "y",.num 0],.tup [.str "z",.num 4],.tup [.str "z",.num 3],.tup [.str "z",.num 2],.tup [.str "z",.num 1],.tup [.str "z",.num 0],.tup [.str "x",.num 6],.tup [.str "x",.num 5],.tup [.str "x",.num 4],.tup [.str "x",.num 3],.tup [.str "x",.num 2],.tup [.str "x",.num 1],.tup [.str "x",.num 0]])
noncomputable def v_BE:AV:=(.lst [.tup [.str "z",.num 24],.tup [.str "z",.num 23],.tup [.str "z",.num 22],.tup [.str "z",.num 21],.tup [.str "z",.num 20],.tup [.str "z",.num 19],.tup [.str "z",.num 18],.tup [.str "z",.num 17],.tup [.str "z",.num 16],.tup [.str "z",.num 15],.tup [.str "z",.num 14],.tup [.str "z",.num 13],.tup [.str "z",.num 12],.tup [.str "z",.num 11],.tup [.str "z",.num 10],.tup [.str "z",.num 9],.tup [.str "z",.num 8],.tup [.str "z",.num 7],.tup [.str "z",.num 6],.tup [.str "z",.num 5],.tup [.str "z",.num 4],.tup [.str "z",.num 3],.tup [.str "z",.num 2],.tup [.str "z",.num 1],.tup [.str "z",.num 0],.tup [.str "x",.num 6],.tup [.str "x",.num 5],.tup [.str "x",.num 4],.tup [.str "x",.num 3],.tup [.str "x",.num 2],.tup [.str "x",.num 1],.tup [.str "x",.num 0]])
end
end Mine
end
section
namespace Mine
section
noncomputable def B9 (o₁ o₂:Option SL):Option SL:=match o₁ with
 | none=>o₂
 | some sl₁=>some (o₂.getD sl₁)
theorem BH (o₁ o₂:Option SL) (sl:SL):(B9 o₁ o₂).getD sl=o₂.getD (o₁.getD sl):=by
 cases o₁<;>rfl
theorem BB {x:RE} {sl:SL} {k:AV→SL→RE} {P:Option SL×AV→Prop} {X:Prop} (h:(seqE x sl k).Holds P X) :
  x.Holds (fun p=>(k p.2 (p.1.getD sl)).Holds (fun q=>P (B9 p.1 q.1,q.2)) X) X:=by
 refine R.holds_mono (fun p hp=>?_) id (R.holds_bind h)
 obtain ⟨o,v⟩:=p
 cases o with
 | none=>exact hp
 | some sl₁=>exact R.holds_bind hp
theorem FN {x:RE} {sl:SL} {k:AV→SL→RL} {P:Option SL×List AV→Prop} {X:Prop} (h:(seqL x sl k).Holds P X) :
  x.Holds (fun p=>(k p.2 (p.1.getD sl)).Holds (fun q=>P (B9 p.1 q.1,q.2)) X) X:=by
 refine R.holds_mono (fun p hp=>?_) id (R.holds_bind h)
 obtain ⟨o,v⟩:=p
 cases o with
 | none=>exact hp
 | some sl₁=>exact R.holds_bind hp
theorem BJ {x:RL} {sl:SL} {k:List AV→SL→RE} {P:Option SL×AV→Prop} {X:Prop} (h:(seqLE x sl k).Holds P X) :
  x.Holds (fun p=>(k p.2 (p.1.getD sl)).Holds (fun q=>P (B9 p.1 q.1,q.2)) X) X:=by
 refine R.holds_mono (fun p hp=>?_) id (R.holds_bind h)
 obtain ⟨o,v⟩:=p
 cases o with
 | none=>exact hp
 | some sl₁=>exact R.holds_bind hp
structure FrmOK (F:Frm) (A:Around):Prop where
 kind:F.env.scope.kind=.function
 glob:F.env.globals=mainGlobals
 blt:F.env.builtins=builtinsNs
 frames:∃ l,A.frames=some l∧∀ e∈l,e.scope.kind≠.module∧∃ L,e.frame=some L∧(F.fr L∨L=F.env.locals)
structure Room (A:Around) (d:Nat):Prop where
 depth:A.depth+d<recursionLimit
 units:A.units+100*d+200<cLine
 hand:A.handled=none
structure Past (F:Frm) (sl:SL) (ρ:List Addr) (s s':Shared):Prop where
 keep:∀ a o,s.heap.get? a=some o→¬ Mut F sl ρ a→Kept F.fr s'.heap a o
 gens:s'.gens=s.gens
 drawn:s'.drawn=s.drawn
 os:s'.os=s.os
 live:∀ a o,s.heap.get? a=some o→∃ o',s'.heap.get? a=some o'
def FO (e:Value) (h:Heap) (a:Addr):Prop:=e=.ref a∨∃ x o vs,e=.ref x∧h.get? x=some o∧o.data=.fields vs∧vs[1]?=some (.ref a)
theorem Evo.past {F:Frm} {sl sl₁:SL} {ρ ρ₁:List Addr} {s s₁ s':Shared} (x:Evo F sl ρ s sl₁ ρ₁ s₁) (y:Past F sl₁ ρ₁ s₁ s'):Past F sl ρ s s':=
 ⟨fun a o e hm=>(x.keep a o e hm).trans fun o' e'=>y.keep a o' e' fun q=>(x.mu a q).elim hm fun z=>(nomatch z.symm.trans e),y.gens.trans x.gens,y.drawn.trans x.drawn,y.os.trans x.os,fun a o e=>ob11 (x.live a o e) fun o' e'=>y.live a o' e'⟩
def OnExc (_:Program) (_:World) (EO:Value→Shared→Prop) (F:Frm) (sl:SL) (ρ:List Addr) (s:Shared) (X:Prop) (E:Value→Shared→Prop):Prop:=
 X→∀ e s',Past F sl ρ s s'→(∀ a,FO e s'.heap a→s.heap.get? a=none)→EO e s'→E e s'
section
variable (prog:Program) (w:World) (EO:Value→Shared→Prop)
def QE (F:Frm) (env:AEnv) (sl:SL) (ρ:List Addr) (s:Shared) (P:Option SL×AV→Prop) (v:Value) (s':Shared):Prop:=
 ∃ o av ρ',Inv prog w F env (o.getD sl) ρ' s'∧Has prog w (Vw F (o.getD sl) ρ' s'.heap) ρ' av v∧Evo F sl ρ s (o.getD sl) ρ' s'∧P (o,av)
def QL (F:Frm) (env:AEnv) (sl:SL) (ρ:List Addr) (s:Shared) (P:Option SL×List AV→Prop) (v:List Value) (s':Shared):Prop:=
 ∃ o av ρ',Inv prog w F env (o.getD sl) ρ' s'∧HasL prog w (Vw F (o.getD sl) ρ' s'.heap) ρ' av v∧Evo F sl ρ s (o.getD sl) ρ' s'∧P (o,av)
def Tri (F:Frm) (env:AEnv) (sl:SL) (ρ:List Addr) (s:Shared) (A:Around) (x:RE) (t:Sem Value):Prop:=
 ∀ (P:Option SL×AV→Prop) (X:Prop) (Q E:Value→Shared→Prop),x.Holds P X→(∀ v s',QE prog w F env sl ρ s P v s'→Q v s')→OnExc prog w EO F sl ρ s X E→wpAny (model prog w) A t Q E s
def TriL (F:Frm) (env:AEnv) (sl:SL) (ρ:List Addr) (s:Shared) (A:Around) (x:RL) (t:Sem (List Value)):Prop:=
 ∀ (P:Option SL×List AV→Prop) (X:Prop) (Q:List Value→Shared→Prop) (E:Value→Shared→Prop),x.Holds P X→(∀ v s',QL prog w F env sl ρ s P v s'→Q v s')→OnExc prog w EO F sl ρ s X E→wpAny (model prog w) A t Q E s
end
variable {prog:Program} {w:World} {EO:Value→Shared→Prop} {F:Frm} {env:AEnv} {sl:SL} {ρ:List Addr} {s:Shared} {A:Around}
theorem OnExc.after {sl₁:SL} {ρ₁:List Addr} {s₁:Shared} {X:Prop} {E:Value→Shared→Prop} (h:OnExc prog w EO F sl ρ s X E) (x:Evo F sl ρ s sl₁ ρ₁ s₁):OnExc prog w EO F sl₁ ρ₁ s₁ X E:=
 fun hX e s' y f z=>h hX e s' (x.past y) (fun a ha=>by
  cases q:s.heap.get? a with
  | none=>rfl
  | some o=>
   refine ob11 (x.live a o q) fun o' q'=>?_
   rw [f a ha] at q'; exact nomatch q') z
theorem Tri.seq {x:RE} {k:AV→SL→RE} {t:Sem Value} {u:Value→Sem Value} (hx:Tri prog w EO F env sl ρ s A x t)
  (hk:∀ v av sl₁ ρ₁ s₁,Inv prog w F env sl₁ ρ₁ s₁→Has prog w (Vw F sl₁ ρ₁ s₁.heap) ρ₁ av v→Evo F sl ρ s sl₁ ρ₁ s₁→Tri prog w EO F env sl₁ ρ₁ s₁ A (k av sl₁) (u v))
  {P:Option SL×AV→Prop} {X:Prop} {Q E:Value→Shared→Prop} (h:(seqE x sl k).Holds P X) (hQ:∀ v s',QE prog w F env sl ρ s P v s'→Q v s') (hE:OnExc prog w EO F sl ρ s X E) :
  wpAny (model prog w) A t (fun v s₁=>wpAny (model prog w) A (u v) Q E s₁) E s:=by
 refine hx _ X _ _ (BB h) (fun v s₁ h₁=>?_) hE
 (refine ob34 h₁ ?_; clear h₁; intro o av ρ₁ I hv ev hp)
 refine hk v av _ ρ₁ s₁ I hv ev _ X _ _ hp (fun v' s₂ h₂=>hQ v' s₂ ?_) (hE.after ev)
 (refine ob34 h₂ ?_; clear h₂; intro o₂ av₂ ρ₂ I₂ hv₂ ev₂ hp₂)
 refine ⟨B9 o o₂,av₂,ρ₂,?_,?_,?_,hp₂⟩<;>rw [BH]
 ·exact I₂
 ·exact hv₂
 ·exact ev.trans ev₂
theorem TriL.seqLE {x:RL} {k:List AV→SL→RE} {t:Sem (List Value)} {u:List Value→Sem Value} (hx:TriL prog w EO F env sl ρ s A x t)
  (hk:∀ v av sl₁ ρ₁ s₁,Inv prog w F env sl₁ ρ₁ s₁→HasL prog w (Vw F sl₁ ρ₁ s₁.heap) ρ₁ av v→Evo F sl ρ s sl₁ ρ₁ s₁→Tri prog w EO F env sl₁ ρ₁ s₁ A (k av sl₁) (u v))
  {P:Option SL×AV→Prop} {X:Prop} {Q E:Value→Shared→Prop} (h:(seqLE x sl k).Holds P X) (hQ:∀ v s',QE prog w F env sl ρ s P v s'→Q v s') (hE:OnExc prog w EO F sl ρ s X E) :
  wpAny (model prog w) A t (fun v s₁=>wpAny (model prog w) A (u v) Q E s₁) E s:=by
 refine hx _ X _ _ (BJ h) (fun v s₁ h₁=>?_) hE
 (refine ob34 h₁ ?_; clear h₁; intro o av ρ₁ I hv ev hp)
 refine hk v av _ ρ₁ s₁ I hv ev _ X _ _ hp (fun v' s₂ h₂=>hQ v' s₂ ?_) (hE.after ev)
 (refine ob34 h₂ ?_; clear h₂; intro o₂ av₂ ρ₂ I₂ hv₂ ev₂ hp₂)
 refine ⟨B9 o o₂,av₂,ρ₂,?_,?_,?_,hp₂⟩<;>rw [BH]
 ·exact I₂
 ·exact hv₂
 ·exact ev.trans ev₂
theorem Tri.seqL {x:RE} {k:AV→SL→RL} {t:Sem Value} {u:Value→Sem (List Value)} (hx:Tri prog w EO F env sl ρ s A x t)
  (hk:∀ v av sl₁ ρ₁ s₁,Inv prog w F env sl₁ ρ₁ s₁→Has prog w (Vw F sl₁ ρ₁ s₁.heap) ρ₁ av v→Evo F sl ρ s sl₁ ρ₁ s₁→TriL prog w EO F env sl₁ ρ₁ s₁ A (k av sl₁) (u v))
  {P:Option SL×List AV→Prop} {X:Prop} {Q:List Value→Shared→Prop} {E:Value→Shared→Prop} (h:(seqL x sl k).Holds P X) (hQ:∀ v s',QL prog w F env sl ρ s P v s'→Q v s') (hE:OnExc prog w EO F sl ρ s X E) :
  wpAny (model prog w) A t (fun v s₁=>wpAny (model prog w) A (u v) Q E s₁) E s:=by
 refine hx _ X _ _ (FN h) (fun v s₁ h₁=>?_) hE
 (refine ob34 h₁ ?_; clear h₁; intro o av ρ₁ I hv ev hp)
 refine hk v av _ ρ₁ s₁ I hv ev _ X _ _ hp (fun v' s₂ h₂=>hQ v' s₂ ?_) (hE.after ev)
 (refine ob34 h₂ ?_; clear h₂; intro o₂ av₂ ρ₂ I₂ hv₂ ev₂ hp₂)
 refine ⟨B9 o o₂,av₂,ρ₂,?_,?_,?_,hp₂⟩<;>rw [BH]
 ·exact I₂
 ·exact hv₂
 ·exact ev.trans ev₂
theorem A9 {s':Shared} {P:Option SL×AV→Prop} {av:AV} {v:Value} (I:Inv prog w F env sl ρ s) (x:Calm F sl ρ s s') (hv:Has prog w (Vw F sl ρ s'.heap) ρ av v) (h:P (none,av)):QE prog w F env sl ρ s P v s':=
 ⟨none,av,ρ,I.calm x,hv,x.evo,h⟩
theorem BL {x:R AV} {P:Option SL×AV→Prop} {X:Prop} (h:(DC x).Holds P X):x.Holds (fun v=>P (none,v)) X:=R.holds_bind h
theorem Tri.pure {x:R AV} {t:Sem Value} (h:∀ (P:AV→Prop) (X:Prop) (Q E:Value→Shared→Prop),x.Holds P X→(∀ v s' av,Calm F sl ρ s s'→Has prog w (Vw F sl ρ s'.heap) ρ av v→P av→Q v s')→wpAny (model prog w) A t Q E s)
  (I:Inv prog w F env sl ρ s):Tri prog w EO F env sl ρ s A (DC x) t:=
 fun _ _ _ _ hh hQ _=>h _ _ _ _ (BL hh) fun v s' _ c hv hp=>hQ v s' (A9 I c hv hp)
noncomputable def NoExc {α:Type}:R α→Prop
 | .ret _=>True
 | .ite _ x y=>NoExc x∧NoExc y
 | .need _ x=>NoExc x
 | .exc=>False
 | .fail=>True
theorem NoExc.holds {α:Type} {P:α→Prop} {X:Prop}:∀ {x:R α},NoExc x→x.Holds P X→x.Holds P False
 | .ret _,_,h=>h
 | .ite _ _ _,n,⟨h1,h2⟩=>⟨fun e=>n.1.holds (h1 e),fun e=>n.2.holds (h2 e)⟩
 | .need _ x,n,⟨h1,h2⟩=>⟨h1,NoExc.holds (x:=x) n h2⟩
 | .exc,n,_=>n.elim
 | .fail,_,h=>h
end
end Mine
end
section
namespace Mine
section
variable {prog:Program} {w:World} {EO:Value→Shared→Prop} {F:Frm} {env:AEnv} {sl:SL} {ρ:List Addr} {s:Shared} {A:Around}
theorem CI {V:Vis} {a:AV} {v:Value} {i:Int} {b:Bool} (h:BF a=some (i,b)) (hv:Has prog w V ρ a v):∃ t,v=.int i t:=by
 cases a<;>first | exact A0 h | (rw [← (Prod.mk.inj (Option.some.inj h)).1]; exact hv)
theorem DF {V:Vis} (i:Int) (b:Bool) (t:Tok):Has prog w V ρ (mkI i b) (.int i t):=by
 cases b<;>exact ⟨t,rfl⟩
theorem BP {V:Vis} {a:AV} {v:Value} {i:Bool} {b:Bool} (h:AQ a=some (i,b)) (hv:Has prog w V ρ a v):v=.bool i:=by
 cases a<;>first | exact A0 h | (rw [← (Prod.mk.inj (Option.some.inj h)).1]; exact hv)
theorem GV {V:Vis} (i:Bool) (b:Bool):Has prog w V ρ (mkB i b) (.bool i):=by
 cases b<;>rfl
theorem DQ {s:Bool} {p:Prop} [Decidable p] {x:R AV} {P:AV→Prop} {X:Prop} (h:(ask s p x).Holds P X):p∧x.Holds P X:=by
 cases s with
 | true=>exact h
 | false=>
  by_cases hp:p
  ·unfold ask at h; simp only [decide_eq_true hp] at h; exact ⟨hp,h⟩
  ·unfold ask at h; simp only [decide_eq_false hp] at h; exact h.elim
theorem IO {C:List Value→Prop} {V:Vis} (K:C []):∀ vs,HasL prog w V ρ [] vs→C vs:=fun vs hx=>by rw [show vs=[] from hx]; exact K
theorem HB {C:List Value→Prop} {V:Vis} {x:AV} {r:List AV} (K:∀ v,Has prog w V ρ x v→∀ us,HasL prog w V ρ r us→C (v :: us)):∀ vs,HasL prog w V ρ (x :: r) vs→C vs:=fun vs hx=>
 ob23 hx fun v us e h1 h2=>e ▸ K v h1 us h2
theorem IZ {C:List Value→Prop} {V:Vis} {α:Type} {l:List AV} {k:AV→List AV→R α} {P:α→Prop} {X:Prop} (h:(eAny l k).Holds P X)
  (K:∀ x r,(k x r).Holds P X→∀ v,Has prog w V ρ x v→∀ us,HasL prog w V ρ r us→C (v :: us)):∀ vs,HasL prog w V ρ l vs→C vs:=by
 cases l with
 | nil=>exact h.elim
 | cons x r=>exact HB (K x r h)
theorem PI {C:List Value→Prop} {V:Vis} {α:Type} {l:List AV} {k:R α} {P:α→Prop} {X:Prop} (h:(eNil l k).Holds P X) (K:k.Holds P X→C []):∀ vs,HasL prog w V ρ l vs→C vs:=by
 cases l with
 | nil=>exact IO (K h)
 | cons x r=>exact h.elim
theorem DR {C:List Value→Prop} {V:Vis} {α:Type} {l:List AV} {k:AV→R α} {P:α→Prop} {X:Prop} (h:(eOne l k).Holds P X)
  (K:∀ x,(k x).Holds P X→∀ v,Has prog w V ρ x v→C [v]):∀ vs,HasL prog w V ρ l vs→C vs:=
 IZ h fun x _ h v hv=>PI (C:=fun us=>C (v :: us)) h fun h=>K x h v hv
theorem AX {C:Prop} {α β:Type} {o:Option β} {k:β→R α} {P:α→Prop} {X:Prop} (h:(onO o k).Holds P X) (K:∀ b,o=some b→(k b).Holds P X→C):C:=by
 cases o with
 | none=>exact h.elim
 | some b=>exact K b rfl h
theorem DD {C:Prop} {α β:Type} {o:Option β} {k:β→R α} {g:R α} {P:α→Prop} {X:Prop} (h:(orO o k g).Holds P X) (K:∀ b,o=some b→(k b).Holds P X→C) (K':o=none→g.Holds P X→C):C:=by
 cases o with
 | none=>exact K' rfl h
 | some b=>exact K b rfl h
theorem EL {C:Value→Prop} {V:Vis} {α:Type} {v:AV} {k:Str→R α} {P:α→Prop} {X:Prop} (h:(EB v k).Holds P X) (K:∀ y t,(k y).Holds P X→C (.str y t)):∀ x,Has prog w V ρ v x→C x:=fun x hv=>by
 cases v<;>first | exact h.elim | exact ob11 hv fun t e=>e ▸ K _ t h
theorem FQ {C:Value→Prop} {V:Vis} {α:Type} {v:AV} {k:Int→R α} {P:α→Prop} {X:Prop} (h:(LY v k).Holds P X) (K:∀ y t,(k y).Holds P X→C (.int y t)):∀ x,Has prog w V ρ v x→C x:=fun x hv=>by
 cases v<;>first | exact h.elim | exact ob11 hv fun t e=>e ▸ K _ t h
theorem NZ {C:Value→Prop} {V:Vis} {α:Type} {v:AV} {k:List Int→R α} {P:α→Prop} {X:Prop} (h:(K1 v k).Holds P X) (K:∀ l a us n,V a (lstO us n)→IntsA l us→(k l).Holds P X→C (.ref a)):∀ x,Has prog w V ρ v x→C x:=fun x hv=>by
 cases v<;>first | exact h.elim | exact ob33 hv fun a us n e h1 h2=>e ▸ K _ a us n h1 h2 h
theorem L5 {C:Value→Prop} {V:Vis} {α:Type} {v:AV} {k:List AV→R α} {P:α→Prop} {X:Prop} (h:(J1 v k).Holds P X) (K:∀ l a us n,V a (lstO us n)→HasL prog w V ρ l us→(k l).Holds P X→C (.ref a)):∀ x,Has prog w V ρ v x→C x:=fun x hv=>by
 cases v<;>first | exact h.elim | exact ob33 hv fun a us n e h1 h2=>e ▸ K _ a us n h1 h2 h
theorem ZR {C:Value→Prop} {V:Vis} {α:Type} {v:AV} {k:Int→Int→Int→R α} {P:α→Prop} {X:Prop} (h:(aiU v k).Holds P X) (K:∀ a b c r t u y,V r (rngO a b c t u y)→(k a b c).Holds P X→C (.ref r)):∀ x,Has prog w V ρ v x→C x:=fun x hv=>by
 cases v<;>first | exact h.elim | exact ob42 hv fun r t u y e h1=>e ▸ K _ _ _ r t u y h1 h
theorem C8 {C:Prop} {α:Type} {v:AV} {k:Str→R α} {P:α→Prop} {X:Prop} (h:(EB v k).Holds P X) (K:∀ x,v=.str x→(k x).Holds P X→C):C:=by
 cases v<;>first | exact h.elim | exact K _ rfl h
theorem CL {C:Prop} {α:Type} {v:AV} {k:Int→R α} {P:α→Prop} {X:Prop} (h:(G8 v k).Holds P X) (K:∀ x,v=.sym x→(k x).Holds P X→C):C:=by
 cases v<;>first | exact h.elim | exact K _ rfl h
theorem AS {C:Prop} {α β:Type} {o:Option α} {k:α→Option β} {r:β} (h:o.bind k=some r) (K:∀ a,o=some a→k a=some r→C):C:=by
 cases o with
 | none=>exact nomatch h
 | some a=>exact K a rfl h
theorem IP {C:Prop} {α:Type} {v:AV} {k:List AV→R α} {P:α→Prop} {X:Prop} (h:(J1 v k).Holds P X) (K:∀ l,v=.lst l→(k l).Holds P X→C):C:=by
 cases v<;>first | exact h.elim | exact K _ rfl h
theorem B2 {C:Prop} {α:Type} {o:Option α} {f:α→Bool} (h:GS o f=true) (K:∀ a,o=some a→f a=true→C):C:=by
 cases o with
 | none=>exact Bool.noConfusion h
 | some a=>exact K a rfl h
theorem EM {C:Prop} (h:false=true):C:=Bool.noConfusion h
theorem CA {α β γ:Type} {C:γ→Prop} {o:Option α} {p:Option β} {f:α→β→γ} {g:γ} (K:∀ a b,o=some a→p=some b→C (f a b)) (K':C g):C (D0 o p f g):=by
 cases o with
 | none=>exact K'
 | some a=>
  cases p with
  | none=>exact K'
  | some b=>exact K a b rfl rfl
theorem FR {C:Prop} {α β γ:Type} {o:Option α} {p:Option β} {f:α→β→R γ} {g:R γ} {P:γ→Prop} {X:Prop} (h:(D0 o p f g).Holds P X) (K:∀ a b,o=some a→p=some b→(f a b).Holds P X→C) (K':g.Holds P X→C):C:=
 CA (C:=fun z:R γ=>z.Holds P X→C) K K' h
theorem C9 {C:Prop} {α β γ:Type} {o:Option α} {p:Option β} {f:α→β→Option γ} {g:Option γ} {c:γ} (h:D0 o p f g=some c) (K:∀ a b,o=some a→p=some b→f a b=some c→C) (K':g=some c→C):C:=
 CA (C:=fun z:Option γ=>z=some c→C) K K' h
theorem VM {C:Prop} {α γ:Type} {o:Option α} {f:α→Option γ} {g:Option γ} {c:γ} (h:selO o f g=some c) (K:∀ a,o=some a→f a=some c→C) (K':g=some c→C):C:=by
 cases o with
 | none=>exact K' h
 | some a=>exact K a rfl h
theorem MA {C:Prop} {γ:Type} {b:Bool} {x y:Option γ} {c:γ} (h:(bif b then x else y)=some c) (K:b=true→x=some c→C) (K':y=some c→C):C:=by
 cases b with
 | true=>exact K rfl h
 | false=>exact K' h
theorem aeT {v:AV} {n:Nat} (h:locO v=some n):v=.loc n:=by
 cases v<;>first | exact A0 h | exact congrArg AV.loc (Option.some.inj h)
theorem GW {v:AV} {l:List AV} (h:lstV v=some l):v=.lst l:=by
 cases v<;>first | exact A0 h | exact congrArg AV.lst (Option.some.inj h)
theorem HY {v:AV} {l:List AV} (h:tupV v=some l):v=.tup l:=by
 cases v<;>first | exact A0 h | exact congrArg AV.tup (Option.some.inj h)
theorem I0 {v:AV} {l:Int} (h:numO v=some l):v=.num l:=by
 cases v<;>first | exact A0 h | exact congrArg AV.num (Option.some.inj h)
theorem EN {v:AV} {l:Str} (h:strO v=some l):v=.str l:=by
 cases v<;>first | exact A0 h | exact congrArg AV.str (Option.some.inj h)
theorem FS {v:AV} {l:Unit} (h:PF v=some l):v=.none:=by
 cases v<;>first | exact A0 h | rfl
theorem VN {v:AV} {l:List Str×List AV} (h:dSO v=some l):v=.dS l.1 l.2:=by
 cases v<;>first | exact A0 h | (rw [← Option.some.inj h])
theorem AA {α:Type} {b:Bool} {x:R α} {P:α→Prop} {X:Prop} (h:(AO b x).Holds P X):b=true∧x.Holds P X:=by
 cases b with
 | true=>exact ⟨rfl,h⟩
 | false=>exact h.elim
theorem BR {m n:Nat} (h:Nat.blt m n=true):m<n:=Nat.le_of_ble_eq_true h
theorem BM {n:Nat} (h:n<16777216):n≤sizeLine:=by rw [sizeLine_eq]; omega
abbrev HZ (F:Frm) (sl:SL) (ρ:List Addr) (s:Shared) (P:AV→Prop) (Q:Value→Shared→Prop):Prop:=
 ∀ v s' av,Calm F sl ρ s s'→Has prog w (Vw F sl ρ s'.heap) ρ av v→P av→Q v s'
theorem ZS {op:Operator} {i j:Int} {b c:Bool} {t u:Tok} {P:AV→Prop} {Q E:Value→Shared→Prop} {X:Prop}
  (h:(intB op i j b c).Holds P X) (hQ:HZ (prog:=prog) (w:=w) F sl ρ s P Q):wpAny (model prog w) A (binaryOp op (.int i t) (.int j u)) Q E s:=by
 cases op<;>try exact h.elim
 ·exact PyProof.Rows.add_int (hQ _ _ _ (.tok _) (DF _ _ _) h)
 ·exact PyProof.Rows.sub_int' (hQ _ _ _ (.tok _) (DF _ _ _) h)
 ·refine ob02 (DQ h) fun h1 h=>?_
  refine ob02 (DQ h) fun h2 h=>?_
  exact PyProof.Rows.mul_int (hQ _ _ _ (.tok _) (DF _ _ _) h) (.of_left (intBits_le_64 (by omega) (by omega)))
 ·refine ob02 (DQ h) fun h1 h=>?_
  exact PyProof.Rows.mod_int' h1 (hQ _ _ _ (.tok _) (DF _ _ _) h)
 ·refine ob02 (DQ h) fun h1 h=>?_
  refine ob02 (DQ h) fun h2 h=>?_
  exact PyProof.Rows.lshift_int_small h1.1 h1.2 h2 (hQ _ _ _ (.tok _) (DF _ _ _) h)
 ·refine ob02 (DQ h) fun h1 h=>?_
  exact PyProof.Rows.rshift_int h1 (hQ _ _ _ (.tok _) (DF _ _ _) h)
 ·exact PyProof.Rows.or_int (hQ _ _ _ (.tok _) (DF _ _ _) h)
 ·exact PyProof.Rows.xor_int (hQ _ _ _ (.tok _) (DF _ _ _) h)
 ·exact PyProof.Rows.and_int (hQ _ _ _ (.tok _) (DF _ _ _) h)
 ·refine ob02 (DQ h) fun h1 h=>?_
  refine PyProof.Rows.floordiv_int h1.1 (hQ _ _ _ (.tok _) (DF _ _ _) h) (.inl (PyProof.noPylong_of_log2 ?_))
  have h2:=h1.2
  by_cases h0:j.natAbs=0
  ·rw [h0]; decide +kernel
  ·have:j.natAbs.log2<128:=(Nat.log2_lt h0).mpr h2
   omega
theorem K6 {op:Operator} {a b:AV} {x y:Value} (hx:Has prog w (Vw F sl ρ s.heap) ρ a x) (hy:Has prog w (Vw F sl ρ s.heap) ρ b y) {P:AV→Prop} {Q E:Value→Shared→Prop} {X:Prop}
  (h:(intA op a b).Holds P X) (hQ:HZ (prog:=prog) (w:=w) F sl ρ s P Q):wpAny (model prog w) A (binaryOp op x y) Q E s:=
 AX h fun i e1 h=>AX h fun j e2 h=>ob11 (CI (i:=i.1) (b:=i.2) e1 hx) fun t ex=>ob11 (CI (i:=j.1) (b:=j.2) e2 hy) fun u ey=>by
  rw [ex,ey]; exact ZS h hQ
theorem SJ {op:Operator} {a b:AV} {x y:Value} (I:Inv prog w F env sl ρ s) (hx:Has prog w (Vw F sl ρ s.heap) ρ a x) (hy:Has prog w (Vw F sl ρ s.heap) ρ b y) {P:AV→Prop} {Q E:Value→Shared→Prop} {X:Prop}
  (h:(binA op a b).Holds P X) (hQ:HZ (prog:=prog) (w:=w) F sl ρ s P Q):wpAny (model prog w) A (binaryOp op x y) Q E s:=by
 cases op<;>try exact K6 hx hy h hQ
 cases a<;>try exact K6 hx hy h hQ
 ·rename_i p
  refine C8 h fun q eb h=>?_
  rw [eb] at hy
  refine ob11 hx fun t ex=>ob11 hy fun u ey=>?_
  rw [ex,ey]
  exact PyProof.Rows.add_str (fun t' tk=>hQ _ _ (.str (p++q)) (.tok _) ⟨_,rfl⟩ h.2) (by rw [sizeLine_eq]; exact h.1)
 ·refine IP h fun m eb h=>?_
  rw [eb] at hy
  refine ob33 hx fun a vs n ex hv hl=>ob33 hy fun b us m ey hu hm=>ob02 (AA h) fun hz h=>?_
  rw [ex,ey]
  have e1:=hl.length
  have e2:=hm.length
  refine PySem.P.add_list (items:=vs.toArray) (items2:=us.toArray) (n:=n) (n2:=m) hv.1 hu.1 ?_ ?_
  ·have C:Calm F sl ρ s { s with heap:=s.heap.push { cls:=.type "list",data:=.seq (vs.toArray++us.toArray) } }:=.push _ _
   refine hQ _ _ (.lst (_++_)) C ⟨s.heap.objs.size,vs++us,0,rfl,?_,?_⟩ h
   ·have e:(⟨.type "list",none,.seq (vs.toArray++us.toArray) 0,#[]⟩:Obj)=lstO (vs++us) 0:=by simp [lstO]
    rw [← e]
    exact C2 I (AJ _) (Heap.get?_push_size _ rfl)
   ·exact (C.evo.hasL hl).append (C.evo.hasL hm)
  ·have:=BR hz
   rw [sizeLine_eq]; simp only [List.size_toArray]; omega
theorem VO {op:UnaryOp} {a:AV} {x:Value} (hx:Has prog w (Vw F sl ρ s.heap) ρ a x) {P:AV→Prop} {Q E:Value→Shared→Prop} {X:Prop}
  (h:(unA op a).Holds P X) (hQ:HZ (prog:=prog) (w:=w) F sl ρ s P Q):wpAny (model prog w) A (unaryOp op x) Q E s:=by
 cases op<;>try exact h.elim
 ·exact AX h fun i e h=>ob11 (CI (i:=i.1) (b:=i.2) e hx) fun t ex=>by
   rw [ex]; exact PyProof.Rows.invert_int (hQ _ _ _ (.tok _) (DF _ _ _) h)
 ·refine AX h fun b e h=>?_
  rw [BP (i:=b.1) (b:=b.2) e hx]
  exact not_value (wpAny_truthy_bool (hQ _ _ _ (.tok s.toks) (GV _ _) h))
 ·exact AX h fun i e h=>ob11 (CI (i:=i.1) (b:=i.2) e hx) fun t ex=>by
   rw [ex]; exact PyProof.Rows.neg_int (hQ _ _ _ (.tok _) (DF _ _ _) h)
end
end Mine
end
section
open PySem.SeqAt
open PySem.AutoSeq1 (wpAny_loadPart')
namespace Mine
section
section
variable {prog:Program} {w:World} {ρ:List Addr} {V:Vis}
theorem D9:∀ (x:AV) {v:Value},Has prog w V ρ x v→Has prog w V ρ (und x) v
 | .ite true x _,v,h=>(D9 x (h.1 rfl):Has prog w V ρ (und x) v)
 | .ite false _ y,v,h=>(D9 y (h.2 rfl):Has prog w V ρ (und y) v)
 | .none,_,h=>h
 | .bool _,_,h=>h
 | .sb _,_,h=>h
 | .num _,_,h=>h
 | .sym _,_,h=>h
 | .str _,_,h=>h
 | .ints _,_,h=>h
 | .tup _,_,h=>h
 | .lst _,_,h=>h
 | .dS _ _,_,h=>h
 | .dI _ _,_,h=>h
 | .rng _ _ _,_,h=>h
 | .loc _,_,h=>h
structure Eqs (A:Around) (s:Shared) (v u:Value) (b:Bool):Prop where
 eq:EqAt A s v u b
 rc:RcAt A s v u b
 ne:RcNeAt A s v u (!b)
 same:v=u→b=true
theorem Eqs.none (A:Around) (s:Shared):Eqs A s .none .none true:=⟨.same _,.none_none,.none_none,fun _=>rfl⟩
theorem Eqs.bool (A:Around) (s:Shared) (a b:Bool):Eqs A s (.bool a) (.bool b) (a==b):=⟨.bool_bool _ _,.bool_bool _ _,.bool_bool _ _,fun e=>by injection e with e; subst e; simp⟩
theorem Eqs.int (A:Around) (s:Shared) (a b:Int) (t u:Tok):Eqs A s (.int a t) (.int b u) (a==b):=⟨.int_int _ _ _ _,.int_int _ _ _ _,.int_int _ _ _ _,fun e=>by injection e with e; subst e; simp⟩
theorem Eqs.str (A:Around) (s:Shared) (a b:Str) (t u:Tok):Eqs A s (.str a t) (.str b u) (a==b):=⟨.str_str _ _ _ _,.str_str _ _ _ _,.str_str _ _ _ _,fun e=>by injection e with e; subst e; simp⟩
theorem Q7 {x y:AV} {v u:Value} {b:Bool} (h:eqF x y=some b) (hv:Has prog w V ρ x v) (hu:Has prog w V ρ y u) (A:Around) (s:Shared):Eqs A s v u b:=by
 refine C9 h (fun _ _ ea eb h=>?_) fun h=>C9 h (fun p q ea eb h=>?_) fun h=>C9 h (fun p q ea eb h=>?_) fun h=>C9 h (fun p q ea eb h=>?_) A0<;>rw [← Option.some.inj h]
 ·rw [FS ea] at hv
  rw [FS eb] at hu
  rw [show v=_ from hv,show u=_ from hu]; exact .none A s
 ·rw [BP (i:=p.1) (b:=p.2) ea hv,BP (i:=q.1) (b:=q.2) eb hu]; exact .bool A s _ _
 ·exact ob11 (CI (i:=p.1) (b:=p.2) ea hv) fun t e=>ob11 (CI (i:=q.1) (b:=q.2) eb hu) fun t' e'=>by rw [e,e']; exact .int A s _ _ _ _
 ·rw [EN ea] at hv
  rw [EN eb] at hu
  exact ob11 hv fun t e=>ob11 hu fun t' e'=>by rw [e,e']; exact .str A s _ _ _ _
inductive All2 (A:Around) (s:Shared):List Value→List Value→Bool→Prop
 | nil:All2 A s [] [] true
 | cons {v u:Value} {l m:List Value} {b c:Bool}:Eqs A s v u b→All2 A s l m c→All2 A s (v :: l) (u :: m) (b&&c)
theorem MB (A:Around) (s:Shared):∀ {l m:List AV} {vs us:List Value} {b:Bool},eqFL l m=some b→HasL prog w V ρ l vs→HasL prog w V ρ m us→All2 A s vs us b
 | [],[],_,_,_,h,hv,hu=>by
  have h:some true=some _:=h
  injection h with h; subst h
  rw [show _=[] from hv,show _=[] from hu]; exact .nil
 | [],_ :: _,_,_,_,h,_,_=>nomatch h
 | _ :: _,[],_,_,_,h,_,_=>nomatch h
 | x :: l,y :: r,_,_,_,h,⟨v,vs,e,h1,h2⟩,⟨u,us,e',k1,k2⟩=>by
  have h:((eqF (und x) (und y)).bind fun b=>(eqFL l r).bind fun c=>some (b&&c))=some _:=h
  refine AS h fun b hb h=>AS h fun c hc h=>?_
  rw [← Option.some.inj h,e,e']
  exact .cons (Q7 hb (D9 _ h1) (D9 _ k1) A s) (MB A s hc h2 k2)
theorem All2.fn {A:Around} {s:Shared} {vs us:List Value} {b:Bool} (h:All2 A s vs us b):∃ e:Nat→Bool,vs.length=us.length∧(∀ j (h1:j<vs.length) (h2:j<us.length),EqAt A s vs[j] us[j] (e j))∧(List.range vs.length).all e=b:=by
 induction h with
 | nil=>exact ⟨fun _=>true,rfl,fun j h1=>absurd h1 (Nat.not_lt_zero _),rfl⟩
 | @cons v u l m b c h1 _ ih=>
  (refine ob13 ih ?_; clear ih; intro e n k hr)
  refine ⟨fun j=>match j with | 0=>b | j+1=>e j,by simp [n],fun j k1 k2=>?_,?_⟩
  ·cases j with
   | zero=>exact h1.eq
   | succ j=>exact k j (by simpa using k1) (by simpa using k2)
  ·rw [List.length_cons,List.range_succ_eq_map,List.all_cons,List.all_map,← hr]
   rfl
def EqW (prog:Program) (w:World) (A:Around) (s:Shared) (y x:Value) (b:Bool):Prop:=
 ∀ (E:Value→Shared→Prop) (Q:Bool→Shared→Prop),Q b s→wpAny (model prog w) A (eqBool y x) Q E s
theorem HC {K:Type} [DecidableEq K] (k:K) (v:Value):∀ (pre rest:List (K×Value)),k ∉ pre.map (·.1)→valueAt (pre++(k,v) :: rest) k=some v
 | [],rest,_=>by simp [valueAt]
 | (j,u) :: pre,rest,h=>by
  have h1:¬ j=k:=fun e=>h (by simp [e])
  have h2:=HC k v pre rest fun q=>h (by simp [q])
  simp only [valueAt,List.cons_append,List.find?_cons,decide_eq_false h1] at h2 ⊢
  exact h2
theorem IA {A:Around} {s:Shared}:∀ {ks:List Str} {vs us:List Value} {b:Bool} (pre:List (Str×Value)),All2 A s vs us b→ks.length=vs.length→(pre.map (·.1)++ks).Nodup→KeqHits A s (pre++ks.zip us) (ks.zip vs) b
 | [],_,_,_,pre,h,hl,_=>by
  cases h with
  | nil=>exact .nil
  | cons _ _=>exact nomatch hl
 | k :: ks,_,_,_,pre,h,hl,hn=>by
  cases h with
  | nil=>exact nomatch hl
  | @cons v u l m b c h1 h2=>
   have hk:k ∉ pre.map (·.1):=fun q=>by
    have:=List.nodup_append.mp hn
    exact this.2.2 k q k (by simp) rfl
   have e:pre++(k :: ks).zip (u :: m)=(pre++[(k,u)])++ks.zip m:=by simp
   refine .hit (y:=u) ?_ h1.eq ?_
   ·rw [List.zip_cons_cons]; exact HC k u pre _ hk
   ·rw [e]
    refine IA (pre++[(k,u)]) h2 (by simpa using hl) ?_
    simpa using hn
theorem SK {K:Type} [DecidableEq K] {knd:KeyKind prog w K} {es:List DictEntry} {kv kv':List (K×Value)} (h:Pairs knd es kv) (h':Pairs knd es kv'):kv=kv':=by
 induction h generalizing kv' with
 | nil=>cases h'; rfl
 | cons h1 h2 _ ih=>
  cases h' with
  | cons k1 k2 k3=>rw [ih k3,Prod.ext (knd.inj _ _ _ h1 k1) (h2.symm.trans k2)]
theorem MC {K:Type} [DecidableEq K] {knd:KeyKind prog w K} {o:Obj} {kv kv':List (K×Value)} (h:o.IsDictOf knd kv) (k:o.IsDictOf knd kv'):kv=kv':=by
 (refine ob25 h ?_; clear h; intro es ep _ h1 _ h2 _)
 (refine ob25 k ?_; clear k; intro es' ep' _ k1 _ k2 _)
 rw [h1] at k1
 injection k1 with e _
 subst e
 exact SK h2 k2
theorem All2.same {A:Around} {s:Shared} {vs us:List Value} {b:Bool} (h:All2 A s vs us b) (e:vs=us):b=true:=by
 induction h with
 | nil=>rfl
 | cons h1 _ ih=>
  injection e with e1 e2
  rw [h1.same e1,ih e2]; rfl
end
section
variable {prog:Program} {w:World} {EO:Value→Shared→Prop} {F:Frm} {env:AEnv} {sl:SL} {ρ:List Addr} {s:Shared} {A:Around}
theorem ZT {ks:List Str}:∀ {vs us:List Value},ks.length=vs.length→ks.length=us.length→ks.zip vs=ks.zip us→vs=us:=by
 induction ks with
 | nil=>intro vs us h1 h2 _; rw [List.length_eq_zero_iff.mp h1.symm,List.length_eq_zero_iff.mp h2.symm]
 | cons k ks ih=>
  intro vs us h1 h2 e
  match vs,us with
  | [],_=>exact nomatch h1
  | _,[]=>exact nomatch h2
  | v :: vs,u :: us=>
   simp only [List.zip_cons_cons,List.cons.injEq,Prod.mk.injEq,true_and] at e
   rw [e.1,ih (by simpa using h1) (by simpa using h2) e.2]
theorem VP {a b:Addr} {oa ob:Obj} {ks:List Str} {vs us:List Value} {c:Bool} (ha:s.heap.get? a=some oa) (hb:s.heap.get? b=some ob) (da:oa.IsDictOf (strKind prog w) (ks.zip vs)) (db:ob.IsDictOf (strKind prog w) (ks.zip us))
  (la:(a==sysModules)=false) (lb:(b==sysModules)=false) (hl:ks.length=vs.length) (hl':ks.length=us.length) (hn:ks.Nodup) (hu:A.units<cLine) (h:All2 A.in1 s vs us c):EqW prog w A s (.ref a) (.ref b) c:=fun E Q hq=>by
 unfold eqBool
 refine wpAny_holding ?_
 refine wpAny_ite_split (fun hab=>?_) (fun _=>?_)
 ·have e:a=b:=by have:=eq_of_beq hab; injection this
  subst e
  rw [ha] at hb
  injection hb with hb
  subst hb
  have e:=h.same (ZT hl hl' (MC da db))
  subst e
  exact wpAny_bind (wpAny_rule (wpAny_pure hq))
 ·refine wpAny_bind (keq_eq la lb (Heap.dictOf_iff.mpr ⟨oa,ha,da⟩) (Heap.dictOf_iff.mpr ⟨ob,hb,db⟩) hu (fun _=>IA [] h hl (by simpa using hn)) ?_)
  refine wpAny_truthy_bool ?_
  rw [List.length_zip,List.length_zip,← hl,← hl',Nat.min_self,beq_self_eq_true,Bool.true_and]
  exact hq
inductive AllW (prog:Program) (w:World) (A:Around) (s:Shared):List (Value×Value)→Bool→Prop
 | nil:AllW prog w A s [] true
 | cons {v u:Value} {l:List (Value×Value)} {b c:Bool}:EqW prog w A s v u b→AllW prog w A s l c→AllW prog w A s ((v,u) :: l) (b&&c)
theorem AllW.inv {A:Around} {v u:Value} {l:List (Value×Value)} {r:Bool} (h:AllW prog w A s ((v,u) :: l) r):∃ b c,EqW prog w A s v u b∧AllW prog w A s l c∧r=(b&&c):=by
 cases h with
 | cons h1 h2=>exact ⟨_,_,h1,h2,rfl⟩
theorem VQ (l b:Addr) (items items2:Array Value) (n n2:Nat) (hsz:items.size=items2.size) (r:Bool) :
  MeetsIn prog w (Builtin.«tuple.__ne__» ⟨[.ref l,.ref b],[]⟩)
   (fun A R s=>s.heap.get? l=some { cls:=.type "tuple",data:=.seq items n }∧s.heap.get? b=some { cls:=.type "tuple",data:=.seq items2 n2 } ∧
    AllW prog w A.in1 s (items.toList.zip items2.toList) r∧R (.ok (.ret (.bool (!r)))) s):=
 .of_wp fun A R s h=>by
  obtain ⟨hp,g,d,tk,os⟩:=s; (refine ob04 h ?_; clear h; intro hl hb he h)
  have f2:=AutoSeq1.sub_tuple_tuple
  wp_walk using wpAny_loadPart' hl,wpAny_loadPart' hb,wpAny_forIn_list _ (fun rest b s'=>b.1=none∧s'=⟨hp,g,d,tk,os⟩∧∃ r,AllW prog w A.in1 ⟨hp,g,d,tk,os⟩ rest r∧R (.ok (.ret (.bool (!r)))) ⟨hp,g,d,tk,os⟩) _
  case turn=>
   rintro ⟨y,x⟩ rest b s' ⟨hb',rfl,r,hz,hR⟩
   (refine ob23 hz.inv fun b1 c1 e1 e2 ζ1=>?_; subst ζ1)
   refine wpAny_bind (e1 _ _ ?_)
   cases b1 with
   | true=>
    wp_walk
    exact ⟨rfl,rfl,c1,e2,by simpa using hR⟩
   | false=>
    wp_walk
    exact ⟨_,rfl,by simpa using hR⟩
  case fin=>
   rintro ⟨b1,b2⟩ s' ⟨hb',rfl,r,hz,hR⟩
   simp only at hb'
   subst hb'
   cases hz
   wp_walk
   exact ⟨_,rfl,by simpa [Builtin.Tuple.tupleCompareSizes,hsz] using hR⟩
  case h=>
   exact ⟨rfl,rfl,r,he,h⟩
theorem SM {l b:Addr} {vs us:List Value} {n n2:Nat} {r:Bool} {Q E:Value→Shared→Prop} (hl:s.heap.get? l=some (tupO vs n)) (hb:s.heap.get? b=some (tupO us n2)) (hsz:vs.length=us.length) (hu:A.units<cLine)
  (he:AllW prog w A.in1 s (vs.zip us) r) (h:Q (.bool (!r)) s):wpAny (model prog w) A (compareOp .NotEq (.ref l) (.ref b)) Q E s:=
 wpAny_richCompare_same_room (op:=.NotEq) ⟨_,hl,rfl⟩ ⟨_,hb,rfl⟩ F.slot_tuple_ne
  (call_meetsIn F.slot_tuple_ne ⟨_,hl,rfl⟩ F.entry_tuple_ne (F.args_tuple_ne_2 _ _) (VQ l b vs.toArray us.toArray n n2 (by simpa using hsz) r)
   ⟨hl,hb,by simpa using he,show Value.bool (!r)≠Value.notImplemented∧Q (.bool (!r)) s from ⟨(fun x=>nomatch x),h⟩⟩) hu
end
end
end Mine
end
section
open PySem.SeqAt
namespace Mine
section
variable {prog:Program} {w:World} {EO:Value→Shared→Prop} {F:Frm} {env:AEnv} {sl:SL} {ρ:List Addr} {s:Shared} {A:Around} {d:Nat}
theorem Room.units' (r:Room A d):A.units+2<cLine:=by have:=r.units; omega
theorem VR:A.in1.units=A.units+1:=rfl
theorem DO {V:Vis}:∀ {l:List AV} {m:List Str} {vs:List Value},GD l=some m→HasL prog w V ρ l vs→StrsAre vs m
 | [],_,_,h,hv=>by
  rw [show _=[] from hv,← Option.some.inj (show some []=some _ from h)]; exact .nil
 | y :: l,_,_,h,hv=>by
  cases y<;>try exact A0 h
  rename_i x
  refine ob23 hv fun v r e h1 h2=>ob11 h1 fun t h1=>?_
  have h:(match GD l with | some m=>some (x :: m) | none=>none)=some _:=h
  cases hm:GD l with
  | none=>rw [hm] at h; exact A0 h
  | some m=>
   rw [hm] at h
   rw [e,h1,← Option.some.inj h]
   exact .cons x t (DO hm h2)
theorem K7 {V:Vis}:∀ {l:List AV} {m:List Int} {vs:List Value},numsOf l=some m→HasL prog w V ρ l vs→IntsA m vs
 | [],_,_,h,hv=>by
  rw [show _=[] from hv,← Option.some.inj (show some []=some _ from h)]; rfl
 | y :: l,_,_,h,hv=>by
  cases y<;>try exact A0 h
  rename_i x
  refine ob23 hv fun v r e h1 h2=>ob11 h1 fun t h1=>?_
  have h:(match numsOf l with | some m=>some (x :: m) | none=>none)=some _:=h
  cases hm:numsOf l with
  | none=>rw [hm] at h; exact A0 h
  | some m=>
   rw [hm] at h
   rw [e,h1,← Option.some.inj h]
   exact ⟨t,r,rfl,K7 hm h2⟩
noncomputable def strE (x:Str):Value→Bool
 | .str y _=>y==x
 | _=>false
noncomputable def intE (x:Int):Value→Bool
 | .int y _=>y==x
 | _=>false
theorem ZU {m:List Str} {vs:List Value} {x:Str} {t:Tok} {A:Around} (h:StrsAre vs m):(∀ y∈vs,EqAt A s y (.str x t) (strE x y))∧vs.any (strE x)=memS x m:=by
 induction h with
 | nil=>exact ⟨(fun _ h=>nomatch h),rfl⟩
 | cons k u h ih=>
  refine ⟨fun y hy=>?_,?_⟩
  ·rcases List.mem_cons.mp hy with rfl | hy
   ·exact .str_str _ _ _ _
   ·exact ih.1 y hy
  ·rw [List.any_cons,ih.2]
   simp only [strE,memS]
   cases k==x<;>rfl
theorem Q8 {x:Int} {t:Tok} {A:Around}:∀ {m:List Int} {vs:List Value},IntsA m vs→(∀ y∈vs,EqAt A s y (.int x t) (intE x y))∧vs.any (intE x)=memI x m
 | [],_,h=>by rw [show _=[] from h]; exact ⟨(fun _ h=>nomatch h),rfl⟩
 | k :: m,_,⟨u,r,e,h⟩=>by
  subst e
  have ih:=Q8 (x:=x) (t:=t) (A:=A) h
  refine ⟨fun y hy=>?_,?_⟩
  ·rcases List.mem_cons.mp hy with rfl | hy
   ·exact .int_int _ _ _ _
   ·exact ih.1 y hy
  ·rw [List.any_cons,ih.2]
   simp only [intE,memI]
theorem EA:∀ {ks:List Str} {vs:List Value} (x:Str),ks.length=vs.length→(valueAt (ks.zip vs) x).isSome=memS x ks
 | [],_,x,_=>rfl
 | k :: ks,[],x,h=>nomatch h
 | k :: ks,v :: vs,x,h=>by
  have ih:=EA (ks:=ks) (vs:=vs) x (by simpa using h)
  by_cases e:k=x
  ·subst e; simp [valueAt,memS]
  ·have e':(k==x)=false:=beq_eq_false_iff_ne.mpr e
   simp only [valueAt,List.zip_cons_cons,List.find?_cons,decide_eq_false e,memS,e'] at ih ⊢
   exact ih
theorem Q9 {C:Prop} {α:Type} {v:AV} {k:List AV→R α} {P:α→Prop} {X:Prop} (h:(aeL v k).Holds P X) (K:∀ l,v=.tup l→(k l).Holds P X→C):C:=by
 cases v<;>first | exact h.elim | exact K _ rfl h
theorem aeU {C:Prop} {α:Type} {v:AV} {k:List Str→List AV→R α} {P:α→Prop} {X:Prop} (h:(onDS v k).Holds P X) (K:∀ ks l,v=.dS ks l→(k ks l).Holds P X→C):C:=by
 cases v<;>first | exact h.elim | exact K _ _ rfl h
theorem K8 {i:Int} {t:Tok} {b:AV} {y:Value} {l:List AV} {m:List Int} {Q E:Value→Shared→Prop} (eb:b=.tup l) (hm:numsOf l=some m) (hy:Has prog w (Vw F sl ρ s.heap) ρ b y) (h:Q (.bool (memI i m)) s):wpAny (model prog w) A (compareOp .In (.int i t) y) Q E s:=by
 rw [eb] at hy
 refine ob33 hy fun c vs n ey hv hh=>?_
 rw [ey]
 have e:=fun x=>Q8 (s:=s) (x:=x) (t:=t) (A:=A.in1) (K7 hm hh)
 refine in_tupleAt (items:=vs.toArray) (intE _) ⟨_,hv.1,rfl,n,rfl⟩ (fun z hz=>(e _).1 z (by simpa using hz)) ?_
 rw [List.any_toArray,(e _).2]; exact h
theorem VS {a b:AV} {x y:Value} (hx:Has prog w (Vw F sl ρ s.heap) ρ a x) (hy:Has prog w (Vw F sl ρ s.heap) ρ b y) {P:AV→Prop} {Q E:Value→Shared→Prop} {X:Prop}
  (h:(inA a b).Holds P X) (hQ:HZ (prog:=prog) (w:=w) F sl ρ s P Q):wpAny (model prog w) A (compareOp .In x y) Q E s:=by
 cases a<;>try exact h.elim
 ·exact Q9 h fun l eb h=>AX h fun m hm h=>ob11 hx fun t ex=>ex ▸ K8 eb hm hy (hQ _ _ (.bool _) (.tok s.toks) rfl h)
 ·exact Q9 h fun l eb h=>AX h fun m hm h=>ob11 hx fun t ex=>ex ▸ K8 eb hm hy (hQ _ _ (.sb _) (.tok s.toks) rfl h)
 ·refine ob11 hx fun t ex=>?_
  rw [ex]
  cases b<;>try exact h.elim
  ·refine ob11 hy fun u ey=>?_
   rw [ey]
   exact PyProof.Rows.in_str (hQ _ _ (.bool _) (.tok s.toks) rfl h)
  ·refine AX h fun m hm h=>ob33 hy fun c vs n ey hv hh=>?_
   rw [ey]
   have e:=fun x=>ZU (s:=s) (x:=x) (t:=t) (A:=A.in1) (DO hm hh)
   refine in_tupleAt (items:=vs.toArray) (strE _) ⟨_,hv.1,rfl,n,rfl⟩ (fun z hz=>(e _).1 z (by simpa using hz)) ?_
   refine hQ _ _ (.bool _) (.tok s.toks) ?_ h
   rw [List.any_toArray,(e _).2]; rfl
  ·refine ob35 hy fun c o vs ey hv hd hl hh=>?_
   rw [ey]
   refine wpAny_in_of (strKind_is prog w _ t) hv.2.2 (Heap.dictOf_iff.mpr ⟨o,hv.1,hd⟩).mapOf ?_
   refine hQ _ _ (.bool _) (.tok _) ?_ h
   rw [EA _ hl]; rfl
theorem N0 {a b:AV} {x y:Value} (hx:Has prog w (Vw F sl ρ s.heap) ρ a x) (hy:Has prog w (Vw F sl ρ s.heap) ρ b y) {P:AV→Prop} {Q E:Value→Shared→Prop} {X:Prop}
  (h:(acB a b).Holds P X) (hQ:HZ (prog:=prog) (w:=w) F sl ρ s P Q):wpAny (model prog w) A (compareOp .NotIn x y) Q E s:=by
 refine C8 h fun p ea h=>aeU h fun ks l eb h=>?_
 rw [ea] at hx
 rw [eb] at hy
 refine ob11 hx fun t ex=>ob35 hy fun c o vs ey hv hd hl hh=>?_
 rw [ex,ey]
 refine wpAny_notIn_of (strKind_is prog w _ t) hv.2.2 (Heap.dictOf_iff.mpr ⟨o,hv.1,hd⟩).mapOf ?_
 refine hQ _ _ (.bool _) (.tok _) ?_ h
 rw [EA _ hl]; rfl
theorem N1 {a b:AV} {x y:Value} (hx:Has prog w (Vw F sl ρ s.heap) ρ a x) (hy:Has prog w (Vw F sl ρ s.heap) ρ b y) {P:AV→Prop} {Q E:Value→Shared→Prop} {X:Prop}
  (h:(acC a b).Holds P X) (hQ:HZ (prog:=prog) (w:=w) F sl ρ s P Q):wpAny (model prog w) A (compareOp .IsNot x y) Q E s:=by
 refine AX h fun _ eb h=>?_
 rw [FS eb] at hy
 rw [show y=.none from hy]
 cases a<;>try exact h.elim
 ·rw [show x=.none from hx]
  exact wpAny_isNot_self rfl (hQ _ _ (.bool false) (.tok s.toks) rfl h)
 ·exact ob11 hx fun t ex=>ex ▸ wpAny_isNot_other rfl nofun (hQ _ _ (.bool true) (.tok s.toks) rfl h)
 ·exact ob11 hx fun t ex=>ex ▸ wpAny_isNot_other rfl nofun (hQ _ _ (.bool true) (.tok s.toks) rfl h)
theorem SN {op:CmpOp} {a b:AV} {x y:Value} (hx:Has prog w (Vw F sl ρ s.heap) ρ a x) (hy:Has prog w (Vw F sl ρ s.heap) ρ b y) {P:AV→Prop} {Q E:Value→Shared→Prop} {X:Prop}
  (h:(ordA op a b).Holds P X) (hQ:HZ (prog:=prog) (w:=w) F sl ρ s P Q):wpAny (model prog w) A (compareOp op x y) Q E s:=by
 refine AX h fun i e1 h=>AX h fun j e2 h=>ob11 (CI (i:=i.1) (b:=i.2) e1 hx) fun t ex=>ob11 (CI (i:=j.1) (b:=j.2) e2 hy) fun u ey=>?_
 rw [ex,ey]
 cases op<;>try exact h.elim
 ·exact PyProof.Rows.lt_int (hQ _ _ _ (.tok s.toks) (GV _ _) h)
 ·exact PyProof.Rows.le_int (hQ _ _ _ (.tok s.toks) (GV _ _) h)
 ·exact PyProof.Rows.gt_int (hQ _ _ _ (.tok s.toks) (GV _ _) h)
 ·exact PyProof.Rows.ge_int (hQ _ _ _ (.tok s.toks) (GV _ _) h)
theorem VT {a b:AV} {x y:Value} {c:Bool} (r:A.units+2<cLine) (h:eqE a b=some c) (hx:Has prog w (Vw F sl ρ s.heap) ρ a x) (hy:Has prog w (Vw F sl ρ s.heap) ρ b y)
  {Q E:Value→Shared→Prop} (hQ:Q (.bool c) s):wpAny (model prog w) A (compareOp .Eq x y) Q E s:=by
 refine C9 h (fun l m ea eb h=>?_) fun h=>(Q7 h hx hy A s).rc prog w E Q hQ
 rw [GW ea] at hx
 rw [GW eb] at hy
 refine ob33 hx fun a vs n ex hv hl=>ob33 hy fun b us m ey hu hm=>ob13 ((MB A.in1 s h hl hm).fn) fun e hn he hr=>?_
 rw [ex,ey]
 refine eq_listAt (items:=vs.toArray) (items2:=us.toArray) (e:=e) ⟨_,hv.1,rfl,n,rfl⟩ ⟨_,hu.1,rfl,m,rfl⟩ (by simpa using hn) (by omega) (fun j h1 h2=>by simpa using he j (by simpa using h1) (by simpa using h2)) ?_
 rw [List.size_toArray,hr]; exact hQ
theorem ajE {a b:AV} {x y:Value} {c:Bool} (r:A.units+2<cLine) (h:eqG a b=some c) (hx:Has prog w (Vw F sl ρ s.heap) ρ a x) (hy:Has prog w (Vw F sl ρ s.heap) ρ b y):EqW prog w A.in1 s x y c:=by
 refine C9 h (fun p q ea eb h=>?_) fun h=>fun E Q hq=>(Q7 h hx hy A.in1 s).eq prog w E Q hq
 rw [VN ea] at hx
 rw [VN eb] at hy
 refine ob35 hx fun a o vs ex hv hd hl hh=>ob35 hy fun b o' us ey hv' hd' hl' hh'=>?_
 rw [ex,ey]
 cases he:decide (p.1=q.1∧p.1.Nodup) with
 | false=>rw [he] at h; exact A0 h
 | true=>
  rw [he] at h
  refine ob02 (of_decide_eq_true he) fun e hn=>?_
  rw [← e] at hd' hl'
  exact VP hv.1 hv'.1 hd hd' hv.2.2 hv'.2.2 hl hl' hn (by rw [VR]; omega) (MB _ _ h hh hh')
theorem VU (r:A.units+2<cLine):∀ {l m:List AV} {vs us:List Value} {b:Bool},eqGL l m=some b→HasL prog w (Vw F sl ρ s.heap) ρ l vs→HasL prog w (Vw F sl ρ s.heap) ρ m us→vs.length=us.length∧AllW prog w A.in1 s (vs.zip us) b
 | [],[],_,_,_,h,hv,hu=>by
  have h:some true=some _:=h
  injection h with h; subst h
  rw [show _=[] from hv,show _=[] from hu]; exact ⟨rfl,.nil⟩
 | [],_ :: _,_,_,_,h,_,_=>nomatch h
 | _ :: _,[],_,_,_,h,_,_=>nomatch h
 | x :: l,y :: q,_,_,_,h,⟨v,vs,e,h1,h2⟩,⟨u,us,e',k1,k2⟩=>by
  have h:((eqG (und x) (und y)).bind fun b=>(eqGL l q).bind fun c=>some (b&&c))=some _:=h
  refine AS h fun b hb h=>AS h fun c hc h=>ob02 (VU r hc h2 k2) fun i1 i2=>?_
  rw [← Option.some.inj h,e,e']
  exact ⟨congrArg (·+1) i1,.cons (ajE r hb (D9 _ h1) (D9 _ k1)) i2⟩
theorem VV {a b:AV} {x y:Value} {c:Bool} (r:A.units+2<cLine) (h:eqN a b=some c) (hx:Has prog w (Vw F sl ρ s.heap) ρ a x) (hy:Has prog w (Vw F sl ρ s.heap) ρ b y)
  {Q E:Value→Shared→Prop} (hQ:Q (.bool (!c)) s):wpAny (model prog w) A (compareOp .NotEq x y) Q E s:=by
 refine C9 h (fun l m ea eb h=>?_) fun h=>C9 h (fun l m ea eb h=>?_) fun h=>C9 h (fun _ m ea eb h=>?_) fun h=>C9 h (fun l _ ea eb h=>?_) fun h=>(Q7 h hx hy A s).ne prog w E Q hQ
 ·rw [GW ea] at hx
  rw [GW eb] at hy
  refine ob33 hx fun a vs n ex hv hl=>ob33 hy fun b us m ey hu hm=>ob13 ((MB A.in1 s h hl hm).fn) fun e hn he hr=>?_
  rw [ex,ey]
  refine RcNeAt.lists (items:=vs.toArray) (items2:=us.toArray) (e:=e) ⟨_,hv.1,rfl,n,rfl⟩ ⟨_,hu.1,rfl,m,rfl⟩ (by simpa using hn) (by omega) (fun j h1 h2=>by simpa using he j (by simpa using h1) (by simpa using h2)) prog w E Q ?_
  rw [List.size_toArray,hr]; exact hQ
 ·rw [HY ea] at hx
  rw [HY eb] at hy
  refine ob33 hx fun a vs n ex hv hl=>ob33 hy fun b us m ey hu hm=>ob02 (VU r h hl hm) fun e1 e2=>?_
  rw [ex,ey]
  exact SM hv.1 hu.1 e1 (by omega) e2 hQ
 ·rw [FS ea] at hx
  rw [HY eb] at hy
  refine ob33 hy fun b us m ey hu hm=>?_
  rw [show x=.none from hx,ey]
  rw [← Option.some.inj h] at hQ
  exact RcNeAt.none_tuple (items:=us.toArray) ⟨_,hu.1,rfl,m,rfl⟩ (by omega) prog w E Q hQ
 ·rw [HY ea] at hx
  rw [FS eb] at hy
  refine ob33 hx fun b us m ex hu hm=>?_
  rw [show y=.none from hy,ex]
  rw [← Option.some.inj h] at hQ
  exact RcNeAt.tuple_none (items:=us.toArray) ⟨_,hu.1,rfl,m,rfl⟩ (by omega) prog w E Q hQ
theorem VW (r:Room A d) {a b:AV} {x y:Value} (hx:Has prog w (Vw F sl ρ s.heap) ρ a x) (hy:Has prog w (Vw F sl ρ s.heap) ρ b y) {P:AV→Prop} {Q E:Value→Shared→Prop} {X:Prop}
  (h:(eqA a b).Holds P X) (hQ:HZ (prog:=prog) (w:=w) F sl ρ s P Q):wpAny (model prog w) A (compareOp .Eq x y) Q E s:=by
 refine FR h (fun i j ea eb h=>?_) fun h=>FR h (fun i j ea eb h=>?_) fun h=>ob02 h fun h1 h=>ob11 (Option.isSome_iff_exists.mp h1) fun c hc=>?_
 ·rw [I0 ea] at hx
  rw [I0 eb] at hy
  exact VT r.units' (c:=i==j) rfl hx hy (hQ _ _ (.bool _) (.tok s.toks) rfl h)
 ·rw [EN ea] at hx
  rw [EN eb] at hy
  exact VT r.units' (c:=i==j) rfl hx hy (hQ _ _ (.bool _) (.tok s.toks) rfl h)
 ·rw [hc] at h
  exact VT r.units' hc (D9 _ hx) (D9 _ hy) (hQ _ _ (.sb c) (.tok s.toks) rfl h)
theorem VY (r:Room A d) {a b:AV} {x y:Value} (hx:Has prog w (Vw F sl ρ s.heap) ρ a x) (hy:Has prog w (Vw F sl ρ s.heap) ρ b y) {P:AV→Prop} {Q E:Value→Shared→Prop} {X:Prop}
  (h:(neA a b).Holds P X) (hQ:HZ (prog:=prog) (w:=w) F sl ρ s P Q):wpAny (model prog w) A (compareOp .NotEq x y) Q E s:=by
 refine FR h (fun i j ea eb h=>?_) fun h=>FR h (fun i j ea eb h=>?_) fun h=>ob02 h fun h1 h=>ob11 (Option.isSome_iff_exists.mp h1) fun c hc=>?_
 ·rw [I0 ea] at hx
  rw [I0 eb] at hy
  exact VV r.units' (c:=i==j) rfl hx hy (hQ _ _ (.bool _) (.tok s.toks) rfl h)
 ·rw [EN ea] at hx
  rw [EN eb] at hy
  exact VV r.units' (c:=i==j) rfl hx hy (hQ _ _ (.bool _) (.tok s.toks) rfl h)
 ·rw [hc] at h
  exact VV r.units' hc (D9 _ hx) (D9 _ hy) (hQ _ _ (.sb (!c)) (.tok s.toks) rfl h)
theorem FT {op:CmpOp} {a b:AV} {x y:Value} (r:Room A d) (hx:Has prog w (Vw F sl ρ s.heap) ρ a x) (hy:Has prog w (Vw F sl ρ s.heap) ρ b y) {P:AV→Prop} {Q E:Value→Shared→Prop} {X:Prop}
  (h:(cmpA op a b).Holds P X) (hQ:HZ (prog:=prog) (w:=w) F sl ρ s P Q):wpAny (model prog w) A (compareOp op x y) Q E s:=by
 cases op with
 | In=>exact VS hx hy h hQ
 | NotIn=>exact N0 hx hy h hQ
 | IsNot=>exact N1 hx hy h hQ
 | Eq=>exact VW r hx hy h hQ
 | NotEq=>exact VY r hx hy h hQ
 | _=>exact SN hx hy h hQ
end
end Mine
end
section
open PySem.SeqAt
namespace Mine
section
variable {prog:Program} {w:World} {EO:Value→Shared→Prop} {F:Frm} {env:AEnv} {sl:SL} {ρ:List Addr} {s:Shared} {A:Around} {d:Nat}
theorem Inv.slot (I:Inv prog w F env sl ρ s) {n:Nat} {v:Value} {σ:Slot} (h:Has prog w (Vw F sl ρ s.heap) ρ (.loc n) v) (e:sl[n]?=some σ):∃ a,v=.ref a∧ρ[n]?=some a∧SlotAt prog w (Vw F sl ρ s.heap) ρ s.heap a σ:=by
 (refine ob12 h ?_; clear h; intro a h1 h2)
 exact ⟨a,h2,h1,I.slots n a σ h1 e⟩
theorem Inv.ownNotSm (I:Inv prog w F env sl ρ s) {n:Nat} {a:Addr} {c:AV} (e:sl[n]?=some (.own c)) (h:ρ[n]?=some a):(a==sysModules)=false:=
 I.notSm (I.low a (.inr (.inr (.inr ⟨n,c,e,h⟩)))).1
theorem H0 (I:Inv prog w F env sl ρ s) {v:AV} {x:Value} {l:List AV} (h:NV sl v=some l) (hv:Has prog w (Vw F sl ρ s.heap) ρ v x) :
  ∃ a vs n,x=.ref a∧s.heap.get? a=some (lstO vs n)∧HasL prog w (Vw F sl ρ s.heap) ρ l vs:=by
 cases v<;>try exact A0 h
 ·rw [← Option.some.inj h]
  exact ob33 hv fun a vs n e hv hl=>⟨a,vs,n,e,hv.1,hl.hasL⟩
 ·rw [← Option.some.inj h]
  exact ob33 hv fun a vs n e hv hl=>⟨a,vs,n,e,hv.1,hl⟩
 ·refine AS h fun σ he hc=>ob13 (I.slot hv he) fun a e hr hs=>?_
  cases σ with
  | own c=>
   rw [show c=_ from GW hc] at hs
   exact ob22 hs fun vs n h1 h2=>⟨a,vs,n,e,h1,h2⟩
  | frz c=>
   rw [show c=_ from GW hc] at hs
   exact ob33 hs fun b vs n h1 h2 h3=>⟨a,vs,n,e,by rw [Value.ref.inj h1]; exact h2.1,h3⟩
def aeV (prog:Program) (w:World) (V:Vis) (ρ:List Addr) (h:Heap) (a:Addr):DV→Prop
 | .s ks l=>∃ o vs,h.get? a=some o∧o.IsDictOf (strKind prog w) (ks.zip vs)∧ks.length=vs.length∧HasL prog w V ρ l vs
 | .i ks l=>∃ o vs,h.get? a=some o∧o.IsDictOf (intKind prog w) (ks.zip vs)∧ks.length=vs.length∧HasL prog w V ρ l vs
theorem GX (I:Inv prog w F env sl ρ s) {v:AV} {x:Value} {dv:DV} (h:GT sl v=some dv) (hv:Has prog w (Vw F sl ρ s.heap) ρ v x) :
  ∃ a,x=.ref a∧(a==sysModules)=false∧aeV prog w (Vw F sl ρ s.heap) ρ s.heap a dv:=by
 cases v<;>try exact A0 h
 ·rw [← Option.some.inj h]
  exact ob35 hv fun a o vs e hv hd hl hh=>⟨a,e,hv.2.2,o,vs,hv.1,hd,hl,hh⟩
 ·rw [← Option.some.inj h]
  exact ob35 hv fun a o vs e hv hd hl hh=>⟨a,e,hv.2.2,o,vs,hv.1,hd,hl,hh⟩
 ·refine AS h fun σ he hc=>ob13 (I.slot hv he) fun a e hr hs=>⟨a,e,?_⟩
  cases σ with
  | frz c=>exact A0 hc
  | own c=>
   refine ⟨I.ownNotSm he hr,?_⟩
   cases c<;>try exact A0 hc
   ·rw [← Option.some.inj hc]; exact hs
   ·rw [← Option.some.inj hc]; exact hs
theorem N2 {V:Vis} {x:Str}:∀ {ks:List Str} {l:List AV} {vs:List Value},HasL prog w V ρ l vs→ks.length=vs.length →
  match D7 ks l x with
  | some av=>∃ v,valueAt (ks.zip vs) x=some v∧Has prog w V ρ av v
  | none=>valueAt (ks.zip vs) x=none
 | [],l,vs,_,_=>by simp [D7,valueAt]
 | k :: ks,[],vs,h,hl=>by rw [show vs=[] from h] at hl; exact nomatch hl
 | k :: ks,y :: l,_,⟨v,r,e,h1,h2⟩,hl=>by
  subst e
  have ih:=N2 (x:=x) (ks:=ks) h2 (by simpa using hl)
  by_cases e:k=x
  ·subst e
   simp only [D7,beq_self_eq_true]
   exact ⟨v,by simp [valueAt],h1⟩
  ·have e':(k==x)=false:=beq_eq_false_iff_ne.mpr e
   simp only [D7,e',valueAt,List.zip_cons_cons,List.find?_cons,decide_eq_false e] at ih ⊢
   exact ih
theorem I1 {V:Vis} {x:Int}:∀ {ks:List Int} {l:List AV} {vs:List Value},HasL prog w V ρ l vs→ks.length=vs.length →
  match PG ks l x with
  | some av=>∃ v,valueAt (ks.zip vs) x=some v∧Has prog w V ρ av v
  | none=>valueAt (ks.zip vs) x=none
 | [],l,vs,_,_=>by simp [PG,valueAt]
 | k :: ks,[],vs,h,hl=>by rw [show vs=[] from h] at hl; exact nomatch hl
 | k :: ks,y :: l,_,⟨v,r,e,h1,h2⟩,hl=>by
  subst e
  have ih:=I1 (x:=x) (ks:=ks) h2 (by simpa using hl)
  by_cases e:k=x
  ·subst e
   simp only [PG]
   exact ⟨v,by simp [valueAt],h1⟩
  ·simp only [PG,decide_eq_false e,valueAt,List.zip_cons_cons,List.find?_cons] at ih ⊢
   exact ih
theorem I2 {x:Int} {dft:Str}:∀ {ks:List Int} {m:List Str} {vs:List Value},StrsAre vs m→ks.length=vs.length →
  (∃ t,valueAt (ks.zip vs) x=some (.str (EC ks m x dft) t))∨(valueAt (ks.zip vs) x=none∧EC ks m x dft=dft∧x ∉ ks)
 | [],m,vs,_,_=>.inr ⟨by simp [valueAt],by simp [EC],by simp⟩
 | k :: ks,[],vs,h,hl=>by cases h; exact nomatch hl
 | k :: ks,y :: m,_,.cons _ t h,hl=>by
  have ih:=I2 (x:=x) (dft:=dft) (ks:=ks) h (by simpa using hl)
  by_cases e:k=x
  ·subst e
   simp only [EC]
   exact .inl ⟨t,by simp [valueAt]⟩
  ·simp only [EC,decide_eq_false e,valueAt,List.zip_cons_cons,List.find?_cons,List.mem_cons,not_or] at ih ⊢
   rcases ih with ih | ⟨h1,h2,h3⟩
   ·exact .inl ih
   ·exact .inr ⟨h1,h2,fun q=>e q.symm,h3⟩
theorem N3 {V:Vis} {x:Int} {P:AV→Prop} {X:Prop} {dft:AV}:∀ {ks:List Int} {l:List AV} {vs:List Value},(aeM ks l x (.ret dft)).Holds P X→HasL prog w V ρ l vs→ks.length=vs.length →
  (∃ v av,valueAt (ks.zip vs) x=some v∧Has prog w V ρ av v∧P av)∨(valueAt (ks.zip vs) x=none∧P dft)
 | [],l,vs,h,_,_=>.inr ⟨by simp [valueAt],h⟩
 | k :: ks,[],vs,_,h,hl=>by rw [show vs=[] from h] at hl; exact nomatch hl
 | k :: ks,y :: l,_,hh,⟨v,r,e,h1,h2⟩,hl=>by
  subst e
  (refine ob02 hh ?_; clear hh; intro g1 g2)
  by_cases e:k=x
  ·subst e
   exact .inl ⟨v,y,by simp [valueAt],h1,g1 (decide_eq_true rfl)⟩
  ·have ih:=N3 (x:=x) (ks:=ks) (g2 (decide_eq_false e)) h2 (by simpa using hl)
   simp only [valueAt,List.zip_cons_cons,List.find?_cons,decide_eq_false e] at ih ⊢
   exact ih
def Got (prog:Program) (w:World) (V:Vis) (ρ:List Addr) (P:AV→Prop) (dv:Option Value) (o:Option Value):Prop:=match dv with
 | none=>∃ v av,o=some v∧Has prog w V ρ av v∧P av
 | some u=>∃ av,Has prog w V ρ av (o.getD u)∧P av
def ajF (prog:Program) (w:World) (V:Vis) (ρ:List Addr):Option AV→Option Value→Prop
 | none,o=>o=none
 | some a,o=>∃ u,o=some u∧Has prog w V ρ a u
theorem RA {V:Vis} {P:AV→Prop} {dval o:Option Value} {av:AV} (e:∃ v,o=some v∧Has prog w V ρ av v) (h:P av):Got prog w V ρ P dval o:=ob12 e fun v e1 e2=>by
 cases dval with
 | none=>exact ⟨v,av,e1,e2,h⟩
 | some u=>exact ⟨av,by rw [e1]; exact e2,h⟩
theorem RB {V:Vis} {P:AV→Prop} {X:Prop} {df:Option AV} {dval o:Option Value} (e:o=none) (hf:ajF prog w V ρ df dval) (h:(onO df R.ret).Holds P X):Got prog w V ρ P dval o:=AX h fun v ed h=>by
 rw [ed] at hf
 refine ob12 hf fun u eu hu=>?_
 rw [eu,e]
 exact ⟨v,hu,h⟩
theorem VZ {C:Prop} {α:Type} {v:AV} {f g:Int→R α} {P:α→Prop} {X:Prop} (h:(onNS v f g).Holds P X) (K:∀ x,v=.num x→(f x).Holds P X→C) (K':∀ x,v=.sym x→(g x).Holds P X→C):C:=by
 cases v<;>first | exact h.elim | exact K _ rfl h | exact K' _ rfl h
theorem ZV {C:Prop} {α:Type} {v:AV} {k:Int→R α} {P:α→Prop} {X:Prop} (h:(LY v k).Holds P X) (K:∀ x,v=.num x→(k x).Holds P X→C):C:=by
 cases v<;>first | exact h.elim | exact K _ rfl h
theorem RC {V:Vis} {a:Addr} {dv:DV} {k:AV} {key:Value} {df:Option AV} {dval:Option Value} {P:AV→Prop} (hd:aeV prog w V ρ s.heap a dv) (hk:Has prog w V ρ k key) (hf:ajF prog w V ρ df dval) {X:Prop}
  (h:(getD dv k df).Holds P X) {C:Prop} (G:∀ (K:Type) (_:DecidableEq K) (knd:KeyKind prog w K) (kk:K) (f:K→Option Value),knd.is kk key=true→s.heap.MapOf knd a f→Got prog w V ρ P dval (f kk)→C):C:=by
 cases dv with
 | s ks l=>
  refine C8 h fun x ek h=>ob24 hd fun o vs h1 h2 h3 h4=>?_
  rw [ek] at hk
  refine ob11 hk fun t ey=>?_
  subst ey
  refine G Str _ (strKind prog w) x _ (strKind_is prog w x t) (Heap.dictOf_iff.mpr ⟨o,h1,h2⟩).mapOf ?_
  have e:=N2 (x:=x) h4 h3
  exact DD h (fun av e1 h=>by rw [e1] at e; exact RA e h) fun e1 h=>by rw [e1] at e; exact RB e hf h
 | i ks l=>
  refine VZ h (fun x ek h=>?_) fun x ek h=>?_
  ·refine ob24 hd fun o vs h1 h2 h3 h4=>?_
   rw [ek] at hk
   refine ob11 hk fun t ey=>?_
   subst ey
   refine G Int _ (intKind prog w) x _ (intKind_is prog w x t) (Heap.dictOf_iff.mpr ⟨o,h1,h2⟩).mapOf ?_
   have e:=I1 (x:=x) h4 h3
   exact DD h (fun av e1 h=>by rw [e1] at e; exact RA e h) fun e1 h=>by rw [e1] at e; exact RB e hf h
  ·refine ob24 hd fun o vs h1 h2 h3 h4=>?_
   rw [ek] at hk
   refine ob11 hk fun t ey=>?_
   subst ey
   refine G Int _ (intKind prog w) x _ (intKind_is prog w x t) (Heap.dictOf_iff.mpr ⟨o,h1,h2⟩).mapOf ?_
   refine DD h (fun m e1 h=>DD h (fun v e2 h=>C8 h fun dft e3 h=>?_) fun e2 h=>?_) fun _ h=>AX h fun v e2 h=>?_
   ·rw [e2,e3] at hf
    refine ob12 hf fun u eu hu=>ob11 hu fun t' eu'=>?_
    rw [eu,eu']
    rcases I2 (x:=x) (dft:=dft) (DO e1 h4) h3 with ⟨t,e⟩ | ⟨e,e',_⟩
    ·exact ⟨.str _,by rw [e]; exact ⟨t,rfl⟩,h⟩
    ·exact ⟨.str _,by rw [e,e']; exact ⟨t',rfl⟩,h⟩
   ·rw [e2] at hf
    rw [show dval=none from hf]
    refine ob02 h fun hx h=>?_
    rcases I2 (x:=x) (dft:=⟨#[]⟩) (DO e1 h4) h3 with ⟨t,e⟩ | ⟨_,_,e⟩
    ·exact ⟨_,.str _,e,⟨t,rfl⟩,h⟩
    ·exact absurd hx e
   ·rw [e2] at hf
    refine ob12 hf fun u eu hu=>?_
    rw [eu]
    rcases N3 h h4 h3 with ⟨v,av,e1,e2,e3⟩ | ⟨e1,e2⟩
    ·exact ⟨av,by rw [e1]; exact e2,e3⟩
    ·exact ⟨_,by rw [e1]; exact hu,e2⟩
theorem N4 {x:Int} {P:AV→Prop} {X:Prop}:∀ {l:List AV} {n:Nat},(aeN n l x).Holds P X→∃ k av,x=((n+k:Nat):Int)∧l[k]?=some av∧P av
 | [],n,h=>h.elim
 | y :: l,n,⟨h1,h2⟩=>by
  by_cases e:x=n
  ·exact ⟨0,y,e,rfl,h1 (decide_eq_true e)⟩
  ·refine ob23 (N4 (l:=l) (n:=n+1) (h2 (decide_eq_false e))) fun k av e1 e2 e3=>?_
   exact ⟨k+1,av,by rw [e1]; congr 1; omega,by simpa using e2,e3⟩
theorem K9:∀ {m:List Str} {vs:List Value} {k:Nat},StrsAre vs m→k<m.length→∃ t,vs[k]?=some (.str (H8 m k) t)
 | x :: m,_,0,.cons _ t h,_=>⟨t,rfl⟩
 | x :: m,_,k+1,.cons _ t h,hk=>by
  refine ob11 (K9 (k:=k) h (by simpa using hk)) fun u e=>?_
  exact ⟨u,by simpa [H8] using e⟩
theorem PJ {a b:AV} {x y:Value} (I:Inv prog w F env sl ρ s) (hx:Has prog w (Vw F sl ρ s.heap) ρ a x) (hy:Has prog w (Vw F sl ρ s.heap) ρ b y) {P:AV→Prop} {Q E:Value→Shared→Prop} {X:Prop}
  (h:(J2 sl a b).Holds P X) (hQ:HZ (prog:=prog) (w:=w) F sl ρ s P Q) {value slice:PySem.Expr} (hs:∀ o i,subscripted slice false o i=operate [o,i] (getItem o i)):wpAny (model prog w) A (subscriptTail value slice x y) Q E s:=by
 have other:(orO (NV sl a) (fun l=>idxA l b) (onO (GT sl a) fun d=>getD d b none)).Holds P X→wpAny (model prog w) A (subscriptTail value slice x y) Q E s:=fun h=>by
  refine DD h (fun l e h=>?_) fun _ h=>AX h fun dv e h=>ob13 (GX I e hx) fun c ex hc hd=>?_
  ·refine ob33 (H0 I e hx) fun a vs m ex hv hl=>?_
   rw [ex]
   refine VZ h (fun i eb h=>ob02 (AA h) fun hi h=>AX h fun av e h=>ob02 (AA h) fun hz h=>?_) fun i eb h=>?_
   ·rw [eb] at hy
    refine ob11 hy fun t ey=>ob12 (hl.get e) fun u hu hh=>?_
    rw [ey]
    have hi:=of_decide_eq_true hi
    have hb:=BR hz
    have hn:i.toNat<l.length:=(List.getElem?_eq_some_iff.mp e).1
    exact tail_any (T := "list") ⟨_,hv,rfl⟩ PySem.F.slot_list_getitem.lookup (wpAny_getItem_list (items:=vs.toArray) ⟨_,hv,rfl,m,rfl⟩ hi (by omega) (by simpa using hu) (hQ _ _ av (.tok s.toks) hh h)) (hs _ _)
   ·rw [eb] at hy
    refine ob11 hy fun t ey=>?_
    rw [ey]
    refine DD h (fun ts e h=>ob02 (AA h) fun hz h=>ob02 h fun h01 h=>?_) fun _ h=>ob02 (AA h) fun hz h=>ob23 (N4 h) fun k av e1 e2 e3=>?_
    ·have h0:=h01.1
     have h1:=h01.2
     have hb:=BR hz
     refine ob11 (K9 (k:=i.toNat) (DO e hl) (by omega)) fun u hu=>?_
     exact tail_any (T := "list") ⟨_,hv,rfl⟩ PySem.F.slot_list_getitem.lookup (wpAny_getItem_list (items:=vs.toArray) ⟨_,hv,rfl,m,rfl⟩ h0 (by omega) (by simpa using hu) (hQ _ _ (.str _) (.tok s.toks) ⟨u,rfl⟩ h)) (hs _ _)
    ·have hb:=BR hz
     refine ob12 (hl.get e2) fun u hu hh=>?_
     have hn:k<l.length:=(List.getElem?_eq_some_iff.mp e2).1
     subst e1
     exact tail_any (T := "list") ⟨_,hv,rfl⟩ PySem.F.slot_list_getitem.lookup (wpAny_getItem_list (items:=vs.toArray) ⟨_,hv,rfl,m,rfl⟩ (Int.natCast_nonneg _) (by simp; omega) (by simpa using hu) (hQ _ _ av (.tok s.toks) hh e3)) (hs _ _)
  ·rw [ex]
   exact RC (df:=none) (dval:=none) hd hy rfl h fun K _ knd kk f e1 e2 g=>ob23 g fun v av e3 e4 e5=>tail_any (T := "dict") e2.typeIs PySem.F.slot_dict_getitem.lookup (wpAny_getItem_of e1 e2 e3 (hQ _ _ av (.tok _) e4 e5)) (hs _ _)
 cases a<;>try exact other h
 ·rename_i l
  refine CL h fun i eb h=>ob33 hx fun a vs n ex hv hl=>ob02 h fun hi h=>?_
  rw [eb] at hy
  refine ob11 hy fun t ey=>?_
  rw [ex,ey]
  have e:l[i.toNat]?=some (l.getD i.toNat 0):=by
   rw [List.getD_eq_getElem?_getD,List.getElem?_eq_getElem (by omega)]; rfl
  refine ob11 (hl.get e) fun u hu=>?_
  exact tail_any (T := "list") ⟨_,hv.1,rfl⟩ PySem.F.slot_list_getitem.lookup (wpAny_getItem_list (items:=vs.toArray) ⟨_,hv.1,rfl,n,rfl⟩ hi.1 (by omega) (by simpa using hu) (hQ _ _ (.sym _) (.tok s.toks) ⟨u,rfl⟩ h)) (hs _ _)
 ·rename_i l
  refine ZV h fun i eb h=>ob02 (AA h) fun hi h=>AX h fun av e h=>ob02 (AA h) fun hz hfin=>ob33 hx fun a vs m ex hv hl=>?_
  rw [eb] at hy
  refine ob11 hy fun t ey=>ob12 (hl.get e) fun u hu hh=>?_
  rw [ex,ey]
  obtain ⟨n,rfl⟩:=Int.eq_ofNat_of_zero_le (of_decide_eq_true hi)
  rw [Int.toNat_natCast] at hu e
  have hb:=BR hz
  have hn:n<vs.length:=by rw [hl.length]; exact (List.getElem?_eq_some_iff.mp e).1
  refine tail_any (T := "tuple") ⟨_,hv.1,rfl⟩ PySem.F.slot_tuple_getitem.lookup (PyProof.Rows.getItem_tuple (items:=vs.toArray) (j:=n) ⟨_,hv.1,rfl,m,rfl⟩ (by show -(2 ^ 63)≤(n:Int); omega) (by show (n:Int)<2 ^ 63; rw [hl.length] at hn; omega) ?_ (by simpa using hu) (hQ _ _ av (.tok s.toks) hh hfin)) (hs _ _)
  have hn0:¬ ((n:Int)<0):=by omega
  simp [seqIndex?,hn0,hn]
end
end Mine
end
section
open PySem.SeqAt PySem.NumText
namespace Mine
section
theorem I3:∀ {l:List Nat},NX l=true→∀ c∈l,c=48∨c=49
 | [],_,_,h=>nomatch h
 | c :: l,h,x,hx=>by
  simp only [NX,Bool.and_eq_true,Bool.or_eq_true,beq_iff_eq] at h
  rcases List.mem_cons.mp hx with rfl | hx
  ·exact h.1
  ·exact I3 h.2 x hx
theorem I4:∀ {l:List Nat} (p:Array Nat) (b:Bool),NX l=true→l.foldlM (step 2) (p,b)=some (p++(l.map (· - 48)).toArray,b||!l.isEmpty)
 | [],p,b,_=>by simp
 | c :: l,p,b,h=>by
  simp only [NX,Bool.and_eq_true,Bool.or_eq_true,beq_iff_eq] at h
  rw [List.foldlM_cons]
  have e:step 2 (p,b) c=some (p.push (c - 48),true):=by
   rcases h.1 with rfl | rfl<;>rfl
  rw [e]
  show l.foldlM (step 2) (p.push (c - 48),true)=_
  rw [I4 (p.push (c - 48)) true h.2]
  simp
theorem I5:∀ (l:List Nat) (acc:Nat),(l.map (· - 48)).foldl (fun acc d=>acc*2+d) acc=IY l acc
 | [],_=>rfl
 | c :: l,acc=>by simp only [List.map_cons,List.foldl_cons,IY]; exact I5 l _
theorem GE {p:Nat→Bool}:∀ {l:List Nat},(∀ c∈l,p c=false)→l.dropWhile p=l
 | [],_=>rfl
 | c :: l,h=>by rw [List.dropWhile_cons,h c (by simp)]; rfl
theorem GF {p:Nat→Bool}:∀ {l:List Nat},(∀ c∈l,p c=true)→l.takeWhile p=l
 | [],_=>rfl
 | c :: l,h=>by rw [List.takeWhile_cons,h c (by simp),if_pos rfl,GF fun x hx=>h x (by simp [hx])]
theorem ZW {l:List Nat} (h:NX l=true) (hne:l≠[]):(int_private% "readNumeral") 0 2 l=(int_private% "Numeral.value") (IY l 0:Nat):=by
 have hm:=I3 h
 have hb:∀ c∈l,blank c=false:=fun c hc=>by rcases hm c hc with rfl | rfl<;>rfl
 have e1:l.dropWhile blank=l:=GE hb
 have e2:sign l=(false,l):=by
  match l,hne,hm with
  | c :: r,_,hm=>rcases hm c (by simp) with rfl | rfl<;>rfl
 have e3:prefix? l=none:=by
  match l,hne,hm with
  | [c],_,hm=>rcases hm c (by simp) with rfl | rfl<;>rfl
  | c :: d :: r,_,hm=>
   rcases hm c (by simp) with rfl | rfl
   ·rcases hm d (by simp) with rfl | rfl<;>rfl
   ·rfl
 have e4:(l.reverse.dropWhile blank).reverse=l:=by
  rw [GE fun c hc=>hb c (by simpa using hc),List.reverse_reverse]
 have e5:based 2 l=(2,false,l):=by unfold based; rw [e3]; rfl
 rw [readNumeral_eq,e1,e2]
 dsimp only
 rw [e5]
 dsimp only
 rw [e4]
 have e6:digits? 2 l=some (#[]++(l.map (· - 48)).toArray):=by
  unfold digits?
  rw [I4 #[] false h]
  cases l with
  | nil=>exact absurd rfl hne
  | cons c r=>rfl
 rw [e6]
 simp only [judge]
 have e7:(#[]++(l.map (· - 48)).toArray).foldl (fun acc d=>acc*2+d) 0=IY l 0:=by
  rw [← I5 l 0]; simp
 rw [e7]
 simp
theorem ZX {M:Model} {A:Around} {E:Value→Shared→Prop} {s:Shared} {Q:Value→Shared→Prop} {v:Value} {text:List Nat} {n:Int}
  (hs:(text.takeWhile (· != 0)).length≤640) (hr:(int_private% "readNumeral") 0 2 (text.takeWhile (· != 0))=(int_private% "Numeral.value") n)
  (ha:((text.takeWhile (· != 0)).length==text.length)=true) (h:Q (.int n s.toks) { s with toks:=s.toks+1 }) :
  wpAny M A ((int_private% "intFromText") v text 2) Q E s:=by
 obtain ⟨hp,g,d,tk,os⟩:=s
 repeat (any_goals (first
  | assumption
  | (with_reducible refine wpAny_ite_true (decide_eq_true hs) ?_)
  | (with_reducible refine wpAny_ite_true (decide_eq_true ha) ?_)
  | wp_step))
 all_goals (try rw [hr])
 all_goals (try dsimp only)
 repeat (any_goals (first
  | assumption
  | (with_reducible refine wpAny_ite_true (decide_eq_true hs) ?_)
  | (with_reducible refine wpAny_ite_true (decide_eq_true ha) ?_)
  | wp_step))
theorem J4 (a b:Value):checkTypeCall "int" ⟨[a,b],[]⟩=pure ():=by kernel_rfl
theorem MD (a b:Value):checkBuiltinCall "int.__new__" ⟨[.type "int",a,b],[]⟩=pure ():=by kernel_rfl
theorem J5 (obj a b:Value):argsOk "object.__init__" ⟨[obj,a,b],[]⟩:=by
 unfold argsOk; rw [signature?_of (id := "object.__init__") (n:=['_','_','t','i','n','i','_','_']) (o:=['t','c','e','j','b','o']) (by kernel_rfl) F.owner_object]; kernel_rfl
theorem PK {x:PySem.Str} {u t:Tok} {n:Int} (hs:(x.cps.toList.takeWhile (· != 0)).length≤640) (hr:(int_private% "readNumeral") 0 2 (x.cps.toList.takeWhile (· != 0))=(int_private% "Numeral.value") n)
  (ha:((x.cps.toList.takeWhile (· != 0)).length==x.cps.toList.length)=true) (hall:x.cps.all (·<128)=true) :
  Gives (Builtin.«int.__new__» ⟨[.type "int",.str x u,.int 2 t],[]⟩) (.int n):=
 .of_wp fun M A E s Q h=>by
  obtain ⟨hp,g,d,tk,os⟩:=s
  have f1:=F.conv_sub_int
  have f2:=F.madeHere_int
  have f6:typeOf (.str x u)=pure (.type "str"):=rfl
  have hk:=KIN.Hid.mk (And.intro hs (And.intro hr ha))
  clear hs hr ha
  repeat (any_goals (first
   | assumption
   | ((with_reducible show wpAny _ _ ((int_private% "intFromText") _ _ _) _ _ _); (try rw [if_pos hall]); refine ZX hk.out.1 hk.out.2.1 hk.out.2.2 ?_)
   | wp_step))
  all_goals first | exact ⟨_,rfl,h⟩ | skip
theorem N5 {prog:Program} {w:World} {A:Around} {E:Value→Shared→Prop} {s:Shared} {Q:Value→Shared→Prop} {x:PySem.Str} {u t:Tok} (h1:NX x.cps.toList=true) (h2:x.cps.toList≠[]) (h3:x.cps.toList.length≤640)
  (h:Q (.int (IY x.cps.toList 0:Nat) s.toks) { s with toks:=s.toks+1 }):wpAny (model prog w) A (call (.type "int") [.str x u,.int 2 t]) Q E s:=by
 have hm:=I3 h1
 have e:x.cps.toList.takeWhile (· != 0)=x.cps.toList:=GF fun c hc=>by rcases hm c hc with rfl | rfl<;>rfl
 have ha:x.cps.all (·<128)=true:=by
  rw [← Array.all_toList,List.all_eq_true]
  intro c hc
  rcases hm c hc with rfl | rfl<;>rfl
 refine callType_new F.called_int F.newNe_int (J4 _ _) (MD _ _) (fun obj=>J5 obj _ _) F.entry_int_new
  (PK (by rw [e]; exact h3) (by rw [e]; exact ZW h1 h2) (by rw [e]; exact beq_self_eq_true _) ha).meets (show (Made.int _).post _ s from ⟨rfl,h⟩)
end
end Mine
end
section
open PySem.SeqAt
namespace Mine
section
variable {prog:Program} {w:World} {EO:Value→Shared→Prop} {F:Frm} {env:AEnv} {sl:SL} {ρ:List Addr} {s:Shared} {A:Around} {d:Nat}
noncomputable def BK.val:BK→Value
 | .len=>.builtin "len"
 | .range=>.type "range"
 | .sum=>.builtin "sum"
 | .all=>.builtin "all"
 | .int=>.type "int"
 | .str=>.type "str"
 | .list=>.type "list"
theorem IntsA.are:∀ {l:List Int} {vs:List Value},IntsA l vs→IntsAre vs l
 | [],_,h=>by rw [show _=[] from h]; exact .nil
 | x :: l,_,⟨t,r,e,h⟩=>by subst e; exact .cons x t h.are
theorem Calm.kept {h':Heap} {tk:Nat} (hk:∀ b o,s.heap.get? b=some o→h'.get? b=some o):Calm F sl ρ s { s with heap:=h',toks:=tk }:=⟨hk,rfl,rfl,rfl⟩
theorem ZY {l:Addr} {ns:List Int} {vs:List Value} {Q E:Value→Shared→Prop} (hh:A.handled=none) (hl:s.heap.IsList l vs.toArray) (hi:IntsAre vs ns)
  (h:∀ h' tk t',(∀ b o,s.heap.get? b=some o→h'.get? b=some o)→Q (.int ns.sum t') { s with heap:=h',toks:=tk }):wpAny (model prog w) A (call (.builtin "sum") [.ref l]) Q E s:=by
 refine ob11 hi.allInts.items fun xs hx=>?_
 have hl':s.heap.IsList l (intItems xs):=hx ▸ hl
 refine sum_intListG hh hl' fun h' tk t' hk=>?_
 have e1:ns=xs.toList.map (·.1):=by
  rw [← nums_intItems,← hx]
  exact (show PySem.numsOf vs.toArray.toList=ns from hi.numsOf).symm
 have e2:preSum (numAt xs) xs.size=ns.sum:=by
  rw [preSum_eq,List.take_of_length_le (by simp),e1]
 rw [e2]
 exact h h' tk t' hk
theorem ZZ {l:Addr} {bs:List Bool} {vs:List Value} {Q E:Value→Shared→Prop} (hh:A.handled=none) (hl:s.heap.IsList l vs.toArray) (hb:LSm.BoolsAre vs bs)
  (h:∀ h' tk,(∀ b o,s.heap.get? b=some o→h'.get? b=some o)→Q (.bool (bs.all id)) { s with heap:=h',toks:=tk }):wpAny (model prog w) A (call (.builtin "all") [.ref l]) Q E s:=by
 have hlt:l<s.heap.objs.size:=by (refine ob12 hl ?_; clear hl; intro _ e _); exact Heap.lt_size e
 refine call_all_walk (wpAny_pyIter_list hl ?_)
 refine ⟨s.heap.objs.size,[s.heap.objs.size,l],[s.heap.objs.size],vs.toArray.size,_,_,fun i=>(bs[i]?).getD true,rfl,Walks.list (A:=A.in1) hh _ l (Nat.ne_of_lt hlt) vs.toArray,
  ⟨⟨_,Heap.get?_push_size _ rfl,rfl,rfl⟩,hl.push _⟩,fun i v s' Q' E' hP hQ=>?_,fun h' tk hk=>?_⟩
 ·(refine ob12 (hb.get i v (by simpa using hP)) fun b e ζ1=>?_; subst ζ1)
  simp only [e,Option.getD_some] at hQ
  exact wpAny_truthy_bool hQ
 ·have e:((List.range vs.toArray.size).all fun i=>(bs[i]?).getD true)=bs.all id:=by
   rw [List.size_toArray,hb.length]; exact LSm.range_all bs
  rw [e]
  exact h h' tk (LSm.kept_iter hk)
theorem RD {V:Vis}:∀ {l:List AV} {vs:List Value} {b t:Bool},allB l=some (b,t)→HasL prog w V ρ l vs→∃ bs,LSm.BoolsAre vs bs∧bs.all id=b
 | [],_,_,_,h,hv=>by
  have h:some (true,false)=some _:=h
  injection h with h
  injection h with h1 _
  rw [show _=[] from hv]; exact ⟨[],.nil,h1⟩
 | x :: l,_,_,_,h,⟨v,r,e,h1,h2⟩=>by
  simp only [allB] at h
  split at h
  ·rename_i b s c t e1 e2
   injection h with h
   injection h with h3 _
   refine ob12 (RD e2 h2) fun bs k1 k2=>?_
   have:=BP e1 h1
   subst this e
   exact ⟨b :: bs,.cons b k1,by rw [List.all_cons,k2,← h3]; rfl⟩
  ·exact nomatch h
theorem LA {V:Vis} {c:Int}:∀ {n:Nat} {a:Int} {vs:List Value},vs.length=n→(∀ (j:Nat) v,vs[j]?=some v→∃ t,v=.int (a+j*c) t)→HasL prog w V ρ ((H9 a c n).map .num) vs
 | 0,_,vs,hl,_=>List.length_eq_zero_iff.mp hl
 | n+1,a,[],hl,_=>nomatch hl
 | n+1,a,v :: vs,hl,h=>by
  refine ob11 (h 0 v rfl) fun t e=>?_
  refine ⟨v,vs,rfl,⟨t,by rw [e]; simp⟩,LA (by simpa using hl) fun j u hj=>?_⟩
  refine ob11 (h (j+1) u (by simpa using hj)) fun t e=>?_
  exact ⟨t,by rw [e]; congr 1; push_cast; rw [Int.add_mul]; omega⟩
theorem N6 {a b c:Int} (h:VF a b c=true):Builtin.Range.small a b c=true∧Builtin.Range.rangeSize a b c=((Builtin.Range.rangeSize a b c).toNat:Int)∧(Builtin.Range.rangeSize a b c).toNat≤2 ^ 24:=by
 simp only [VF,Bool.and_eq_true,decide_eq_true_eq] at h
 exact ⟨h.1.1,h.1.2,Nat.le_of_ble_eq_true h.2⟩
theorem SO {n:Nat} (h:n<1000000):n.log2<1920:=by
 by_cases h0:n=0
 ·rw [h0]; decide +kernel
 ·have:n.log2<20:=(Nat.log2_lt h0).mpr (by omega)
  omega
theorem aeW {C:Value→Prop} {V:Vis} {v:AV} {g:R AV} {P:AV→Prop} {X:Prop} (h:(lenI v g).Holds P X) (K:∀ (l:List Int) a us n,V a (lstO us n)→IntsA l us→l.length<2 ^ 62→P (.sym l.length)→C (.ref a)) (K':g.Holds P X→∀ x,Has prog w V ρ v x→C x):∀ x,Has prog w V ρ v x→C x:=fun x hv=>by
 cases v<;>first | exact K' h x hv | exact ob33 hv fun a us n e h1 h2=>e ▸ K _ a us n h1 h2 h.1 h.2
theorem PL {k:BK} {args:List AV} (vs:List Value) (r:Room A d) (I:Inv prog w F env sl ρ s) (hx:HasL prog w (Vw F sl ρ s.heap) ρ args vs) {P:AV→Prop} {X:Prop} {Q E:Value→Shared→Prop}
  (h:(ZM k sl args).Holds P X) (hQ:HZ (prog:=prog) (w:=w) F sl ρ s P Q):wpAny (model prog w) A (call k.val vs) Q E s:=by
 revert vs
 cases k with
 | len=>
  refine DR h fun v h=>?_
  refine aeW h (fun l a us n hv hl h1 h=>?_) fun h x hv=>DD h (fun l e h=>?_) fun _ h=>?_
  ·have e:=hl.length
   refine call_len_list (items:=us.toArray) ⟨_,hv.1,rfl,n,rfl⟩ (by simp; omega) (hQ _ _ (.sym _) (.tok _) ⟨s.toks+1,?_⟩ h)
   simp [e]
  ·refine ob33 (H0 I e hv) fun a us m e' hv hl=>?_
   refine ob02 (AA h) fun hz h=>?_
   have hb:=BR hz
   have e:=hl.length
   rw [e']
   refine call_len_list (items:=us.toArray) ⟨_,hv,rfl,m,rfl⟩ (by simp; omega) (hQ _ _ (.num _) (.tok _) ⟨s.toks+1,?_⟩ h)
   simp [e]
  ·revert x
   refine EL h fun y t h=>?_
   refine ob02 (AA h) fun hz h=>?_
   have hb:=BR hz
   exact PyProof.Rows.len_str (by omega) (hQ _ _ (.num _) (.tok _) ⟨_,rfl⟩ h)
 | range=>
  refine IZ h fun u r h=>?_
  refine FQ h fun a t h=>?_
  cases r with
  | nil=>
   refine IO ?_
   exact call_range_1 (hQ _ _ (.rng _ _ _) (.push _ _) ⟨_,_,_,_,rfl,C2 I (AJ _) (Heap.get?_push_size _ rfl)⟩ h)
  | cons u r=>
   refine HB ?_
   refine FQ h fun b t' h=>?_
   cases r with
   | nil=>
    refine IO ?_
    exact call_range_2 (hQ _ _ (.rng _ _ _) (.push _ _) ⟨_,_,_,_,rfl,C2 I (AJ _) (Heap.get?_push_size _ rfl)⟩ h)
   | cons u r=>
    refine HB fun v hv=>?_
    refine PI h fun h=>?_
    revert v
    refine FQ h fun c t' h=>ob02 (AA h) fun hc h=>?_
    have hc:=of_decide_eq_true hc
    exact call_range_3 (by omega) (hQ _ _ (.rng _ _ _) (.push _ _) ⟨_,_,_,_,rfl,C2 I (AJ _) (Heap.get?_push_size _ rfl)⟩ h) (.inl (PyProof.noPylong_small (by omega)))
 | sum=>
  refine DR h fun v h=>?_
  exact NZ h fun l a us n hv hl h=>ZY r.hand ⟨_,hv.1,rfl,n,rfl⟩ hl.are fun h' tk t' hk=>hQ _ _ (.sym _) (.kept hk) ⟨_,rfl⟩ h
 | all=>
  refine DR h fun v h=>?_
  refine L5 h fun l a us n hv hl h=>AX h fun p e h=>ob12 (RD e hl) fun bs h1 h2=>?_
  refine ZZ r.hand ⟨_,hv.1,rfl,n,rfl⟩ h1 fun h' tk hk=>hQ _ _ _ (.kept hk) ?_ h
  rw [h2]; exact GV _ _
 | int=>
  refine IZ h fun u r h=>?_
  refine EL h fun x t h=>?_
  cases r with
  | nil=>
   exact IO (AX h fun i e h=>ob02 (AA h) fun hz h=>KIN.call_text e (Nat.le_of_ble_eq_true hz) (hQ _ _ (.num _) (.tok _) ⟨_,rfl⟩ h))
  | cons u r=>
   refine HB fun v hv=>?_
   refine PI h fun h=>?_
   revert v
   refine FQ h fun n t' h=>ob02 (AA h) fun hz h=>?_
   simp only [Bool.and_eq_true,Bool.not_eq_true',List.isEmpty_eq_false_iff,decide_eq_true_eq] at hz
   rw [hz.1]
   exact N5 hz.2.1.1 hz.2.1.2 (Nat.le_of_ble_eq_true hz.2.2) (hQ _ _ (.num _) (.tok _) ⟨_,rfl⟩ h)
 | str=>
  refine DR h fun v h=>?_
  exact FQ h fun i t h=>ob02 (AA h) fun hz h=>PySem.P.str_of_int (SO (BR hz)) (hQ _ _ (.str _) (.tok _) ⟨_,rfl⟩ h)
 | list=>
  refine DR h fun v h=>?_
  refine ZR h fun a b c r' t u y hv h=>ob02 (AA h) fun hz h=>ob03 (N6 hz) fun h1 h2 h3=>?_
  refine call_list_range r.hand hv.1 h1 h2 h3 fun h' tk acc c' hk hn hi=>hQ _ _ (.lst _) (.kept hk) ⟨_,acc.toList,c',rfl,C2 I (AJ _) ?_,?_⟩ h
  ·rw [hn]
  ·exact LA (by simpa using hi.1) fun j v hj=>hi.2 j v (by simpa using hj)
end
end Mine
end
section
open PySem.SeqAt
namespace Mine
section
variable {prog:Program} {w:World} {EO:Value→Shared→Prop} {F:Frm} {env:AEnv} {sl:SL} {ρ:List Addr} {s:Shared} {A:Around} {d:Nat}
theorem fa {α:Type} {P:α→Prop} {q:α} {l:List α} (h:P q) (g:∀ p∈l,P p):∀ p∈q :: l,P p:=List.forall_mem_cons.mpr ⟨h,g⟩
theorem fa0 {α:Type} {P:α→Prop}:∀ p∈([]:List α),P p:=fun _ h=>(List.not_mem_nil h).elim
theorem AF {α:Type} {x:Str} {a:α}:∀ {l:List (Str×α)},l.lookup x=some a→(x,a)∈l
 | [],h=>nomatch h
 | (y,b) :: l,h=>by
  rw [List.lookup_cons] at h
  cases e:x==y with
  | true=>
   rw [e] at h
   injection h with h
   subst h
   rw [eq_of_beq e]; simp
  | false=>
   rw [e] at h
   exact List.mem_cons_of_mem _ (AF h)
theorem PM {n:Nat} {c c':AV} (hn:sl[n]?=some (Slot.own c)) (b:Addr):OwnA (sl.set n (Slot.own c')) ρ b↔OwnA sl ρ b:=by
 constructor
 ·rintro ⟨m,d,h1,h2⟩
  by_cases e:n=m
  ·subst e; exact ⟨n,c,hn,h2⟩
  ·rw [List.getElem?_set_ne e] at h1; exact ⟨m,d,h1,h2⟩
 ·rintro ⟨m,d,h1,h2⟩
  by_cases e:n=m
  ·subst e
   exact ⟨n,c',by rw [List.getElem?_set_self (List.getElem?_eq_some_iff.mp hn).1],h2⟩
  ·exact ⟨m,d,by rw [List.getElem?_set_ne e]; exact h1,h2⟩
theorem PN {n:Nat} {c c':AV} (hn:sl[n]?=some (Slot.own c)) (b:Addr):Mut F (sl.set n (Slot.own c')) ρ b↔Mut F sl ρ b:=by
 unfold Mut; rw [PM hn]
theorem PO {n:Nat} {c c':AV} (hn:sl[n]?=some (Slot.own c)) (b:Addr):Bad F (sl.set n (Slot.own c')) ρ b↔Bad F sl ρ b:=by
 unfold Bad; rw [PN hn]
theorem I6 {n:Nat} {c c':AV} (hn:sl[n]?=some (Slot.own c)) (h:Heap):Vw F (sl.set n (Slot.own c')) ρ h=Vw F sl ρ h:=by
 funext a o
 unfold Vw
 rw [PO hn]
theorem OwnAt.live {V:Vis} {h:Heap} {a:Addr} {c:AV} (x:OwnAt prog w V ρ h a c):∃ o,h.get? a=some o:=by
 cases c<;>first | exact x.elim | exact ob22 x fun _ _ e _=>⟨_,e⟩ | exact ob24 x fun _ _ e _ _ _=>⟨_,e⟩
theorem SlotAt.calm' {V V':Vis} {h h':Heap} {a:Addr} (hV:∀ a o,V a o→V' a o) :
  ∀ {σ:Slot},SlotAt prog w V ρ h a σ→(∀ c,σ=.own c→∀ o,h.get? a=some o→h'.get? a=some o)→SlotAt prog w V' ρ h' a σ
 | .frz t,x,_=>Has.mono prog w hV (fun _ _ e=>e) t _ x
 | .own c,x,hk=>SlotAt.calm (σ:=.own c) hV (fun _ _ e=>e) (hk c rfl) x
theorem EE (I:Inv prog w F env sl ρ s) {n:Nat} {a:Addr} {c:AV} (hn:sl[n]?=some (Slot.own c)) (ha:ρ[n]?=some a) {h':Heap} (keep:∀ b o,b≠a→s.heap.get? b=some o→h'.get? b=some o) :
  ∀ b o,Vw F sl ρ s.heap b o→Vw F sl ρ h' b o:=fun b o h=>
 ⟨keep b o (fun e=>by subst e; exact h.2.1 (.inr (.inr (.inr ⟨n,c,hn,ha⟩)))) h.1,h.2⟩
theorem Inv.store (I:Inv prog w F env sl ρ s) {n:Nat} {a:Addr} {c c':AV} (hn:sl[n]?=some (Slot.own c)) (ha:ρ[n]?=some a) {s':Shared} (keep:∀ b o,b≠a→s.heap.get? b=some o→s'.heap.get? b=some o)
  (hg:s'.gens=s.gens) (hd:s'.drawn=s.drawn) (ho:s'.os=s.os) (hc:OwnAt prog w (Vw F sl ρ s'.heap) ρ s'.heap a c') :
  Inv prog w F env (sl.set n (Slot.own c')) ρ s'∧Evo F sl ρ s (sl.set n (Slot.own c')) ρ s':=by
 have own:OwnA sl ρ a:=⟨n,c,hn,ha⟩
 have hv:=EE I hn ha keep
 have hlt:=(List.getElem?_eq_some_iff.mp hn).1
 have hbad:Bad F sl ρ a:=.inr (.inr (.inr own))
 have apa:=I.ownNe a own
 refine ⟨⟨?_,I.sm,?_,?_,?_,I.kind,?_,?_,?_,?_,?_,I.locX,fun b h=>ob12 (I.frs b h) fun o e d=>⟨o,keep b o (fun q=>apa.2.2 (q ▸ F.frX b h)) e,d⟩⟩,⟨?_,hg,hd,ho,fun _ _ e=>e,fun b h=>.inl ((PN hn b).mp h),fun b o e=>by
  by_cases q:b=a
  ·subst q; exact hc.live
  ·exact ⟨o,keep b o q e⟩⟩⟩
 ·intro b o e
  refine keep b o (fun q=>?_) (I.base b o e)
  subst q
  rw [(I.low b hbad).1] at e; exact nomatch e
 ·intro b h
  have h:=(PO hn b).mp h
  refine ⟨(I.low b h).1,?_⟩
  by_cases e:b=a
  ·subst e; exact hc.live
  ·refine ob11 ((I.low b h).2) fun o e'=>?_; exact ⟨o,keep b o e e'⟩
 ·rw [I6 hn]
  refine ob12 I.ns fun m h1 h2=>?_
  refine ⟨m,h1.at fun o e=>keep _ o (Ne.symm apa.1) e,fun x av e k=>?_⟩
  refine ob12 (h2 x av e k) fun v e1 e2=>?_
  exact ⟨v,e1,Has.mono prog w hv (fun _ _ e=>e) av v e2⟩
 ·rw [I6 hn]
  intro x av e k
  (refine ob23 (I.cell x av e k) fun q v e1 ζ1 e4=>?_; refine ob12 ζ1 ?_; clear ζ1; intro o e2 e3)
  refine ⟨q,v,e1,⟨o,keep q o (fun e=>?_) e2,e3⟩,Has.mono prog w hv (fun _ _ e=>e) av v e4⟩
  subst e
  exact apa.2.1 x (AF e1)
 ·intro x q e
  (refine ob02 (I.cells x q e) fun ζ1 h3=>?_; refine ob22 ζ1 ?_; clear ζ1; intro ov o h1 h2)
  exact ⟨⟨ov,o,keep q o (fun z=>by subst z; exact apa.2.1 x e) h1,h2⟩,h3⟩
 ·rw [List.length_set]; exact I.len
 ·rw [I6 hn]
  intro m b σ e1 e2
  by_cases e:n=m
  ·subst e
   rw [List.getElem?_set_self hlt] at e2
   injection e2 with e2
   subst e2
   rw [ha] at e1
   injection e1 with e1
   subst e1
   exact hc
  ·rw [List.getElem?_set_ne e] at e2
   refine (I.slots m b σ e1 e2).calm' hv fun d hd o ho=>keep b o (fun z=>?_) ho
   subst z hd
   exact e (I.apart n m b c d hn e2 ha e1)
 ·intro p q b d d' h1 h2 h3 h4
  have f:∀ p d,(sl.set n (Slot.own c'))[p]?=some (Slot.own d)→∃ e,sl[p]?=some (Slot.own e):=fun p d h=>by
   by_cases e:n=p
   ·subst e; exact ⟨c,hn⟩
   ·rw [List.getElem?_set_ne e] at h; exact ⟨d,h⟩
  refine ob11 (f p d h1) fun _ k1=>?_
  refine ob11 (f q d' h2) fun _ k2=>?_
  exact I.apart p q b _ _ k1 k2 h3 h4
 ·intro b h
  exact I.ownNe b ((PM hn b).mp h)
 ·intro b o e hm
  exact .of (keep b o (fun q=>by subst q; exact hm (.inr (.inr own))) e)
theorem BS {a:Addr} {h h':Heap} (x:Heap.SameBut a h h'):∀ b o,b≠a→h.get? b=some o→h'.get? b=some o:=fun b o e g=>(x.2 b e).trans g
end
end Mine
end
section
open PySem.SeqAt
open PySem.Builtin.Str (occurrences partsBetween)
namespace Mine
section
variable {prog:Program} {w:World} {EO:Value→Shared→Prop} {F:Frm} {env:AEnv} {sl:SL} {ρ:List Addr} {s:Shared} {A:Around} {d:Nat}
noncomputable def MK.ty:MK→String
 | .get => "dict" | .setdefault => "dict" | .append => "list" | _ => "str"
noncomputable def MK.id:MK→String
 | .get => "dict.get" | .setdefault => "dict.setdefault" | .append => "list.append" | .split => "str.split" | .count => "str.count" | .join => "str.join"
def aeX (m:Str) (k:MK):Prop:=PlainAttrs k.ty∧PySem.Slot k.ty m k.id∧typeOf (.builtin k.id)=pure (.type "method_descriptor")
theorem ajG:∀ p∈mkL,aeX p.1 p.2:=
 fa ⟨PySem.F.plainAttrs_dict,PySem.F.slot_dict_get,PySem.F.type_dict_get⟩ (fa ⟨PySem.F.plainAttrs_str,PySem.F.slot_str_split,PySem.F.type_str_split⟩ (fa ⟨PySem.F.plainAttrs_str,PySem.F.slot_str_count,PySem.F.type_str_count⟩ (fa ⟨PySem.F.plainAttrs_str,PySem.F.slot_str_join,PySem.F.type_str_join⟩
  (fa ⟨PySem.F.plainAttrs_list,PySem.F.slot_list_append,PySem.F.type_list_append⟩ (fa ⟨PySem.F.plainAttrs_dict,PySem.F.slot_dict_setdefault,PySem.F.type_dict_setdefault⟩ fa0)))))
theorem Z0 {m:Str} {k:MK} (h:mkOf m=some k):PlainAttrs k.ty∧PySem.Slot k.ty m k.id∧typeOf (.builtin k.id)=pure (.type "method_descriptor"):=ajG _ (AF h)
theorem aeY {V:Vis} {a:Addr} {dv:DV} (h:aeV prog w V ρ s.heap a dv):s.TypeIs (.ref a) "dict" ∧ (∀ b,Value.ref a=.ref b→∃ ob,s.heap.get? b=some ob∧ob.dict=none):=by
 cases dv with
 | s ks l=>(refine ob23 h ?_; clear h; intro o vs h1 h2 _); have e:=(Heap.dictOf_iff.mpr ⟨o,h1,h2⟩:s.heap.DictOf (PySem.strKind prog w) a _).mapOf; exact ⟨e.typeIs,e.noDict⟩
 | i ks l=>(refine ob23 h ?_; clear h; intro o vs h1 h2 _); have e:=(Heap.dictOf_iff.mpr ⟨o,h1,h2⟩:s.heap.DictOf (intKind prog w) a _).mapOf; exact ⟨e.typeIs,e.noDict⟩
theorem Z1 {k:MK} {o:AV} {x:Value} (I:Inv prog w F env sl ρ s) (h:onK k sl o=true) (hx:Has prog w (Vw F sl ρ s.heap) ρ o x) :
  s.TypeIs x k.ty∧(∀ a,x=.ref a→∃ ob,s.heap.get? a=some ob∧ob.dict=none):=by
 have dct:(GT sl o).isSome=true→s.TypeIs x "dict" ∧ (∀ a,x=.ref a→∃ ob,s.heap.get? a=some ob∧ob.dict=none):=fun h=>by
  refine ob11 (Option.isSome_iff_exists.mp h) fun dv e=>?_
  (refine ob13 (GX I e hx) fun a ζ1 _ hd=>?_; subst ζ1)
  exact aeY hd
 have st:VH o=true→s.TypeIs x "str" ∧ (∀ a,x=.ref a→∃ ob,s.heap.get? a=some ob∧ob.dict=none):=fun h=>by
  unfold VH at h
  split at h
  ·(refine ob11 hx ?_; clear hx; intro t ζ1; subst ζ1)
   exact ⟨typeIs_str _ _ _,fun a e=>nomatch e⟩
  ·exact nomatch h
 cases k with
 | get=>exact dct h
 | setdefault=>exact dct h
 | append=>
  refine ob11 (Option.isSome_iff_exists.mp h) fun l e=>?_
  (refine ob33 (H0 I e hx) fun a vs n ζ1 hv _=>?_; subst ζ1)
  exact ⟨⟨_,hv,rfl⟩,fun b e=>by injection e with e; subst e; exact ⟨_,hv,rfl⟩⟩
 | split=>exact st h
 | count=>exact st h
 | join=>exact st h
theorem SP {x y:Str} {t u:Tok} {Q E:Value→Shared→Prop} (hy:(y.length==0)=false)
  (h:∀ l k,l.map (·.1)=Txt.split x y→Q (.ref s.heap.objs.size) { s with heap:=s.heap.push { cls:=.type "list",data:=.seq (strValues l).toArray },toks:=k })
  (hsz:x.length+2≤sizeLine):wpAny (model prog w) A (call (.builtin "str.split") [.str x t,.str y u]) Q E s:=by
 have hn:(partsBetween x (occurrences x y 0 x.length (x.length+1)) y.length).length≤sizeLine:=by
  have e1:=StrLaws.occ_length_le x y 0 x.length (x.length+1)
  rw [length_partsBetween]; omega
 cases h1:(decide (x.length<y.length)||decide (PySem.Builtin.Str.strKind x<PySem.Builtin.Str.strKind y))
 ·cases hf:(occurrences x y 0 x.length (x.length+1)).isEmpty
  ·refine call_meets PySem.F.slot_str_split (typeIs_str _ _ _) PySem.F.entry_str_split (PySem.F.args_str_split_2 _ _) (meets_str_split_sep x y t u h1 hy hf (by omega) hn) ?_
   show wants Q E _ { s with toks:=_,heap:=s.heap.push { cls:=.type "list",data:=.seq (strsFrom s.toks (partsBetween x (occurrences x y 0 x.length (x.length+1)) y.length)).toArray } }
   rw [strsFrom_eq]
   exact h (numbered s.toks _) _ ((numbered_texts _ _).trans ((if_neg (ne_true_of_eq_false h1)).trans (if_neg (ne_true_of_eq_false hf))).symm)
  ·exact call_meets PySem.F.slot_str_split (typeIs_str _ _ _) PySem.F.entry_str_split (PySem.F.args_str_split_2 _ _) (meets_str_split_not_found x y t u h1 hy hf)
    (h [(x,t)] s.toks ((if_neg (ne_true_of_eq_false h1)).trans (if_pos hf)).symm)
 ·exact call_meets PySem.F.slot_str_split (typeIs_str _ _ _) PySem.F.entry_str_split (PySem.F.args_str_split_2 _ _) (meets_str_split_cannot_occur x y t u h1)
   (h [(x,t)] s.toks (if_pos h1).symm)
theorem N7 {V:Vis}:∀ {l:List (Str×Tok)},HasL prog w V ρ ((l.map (·.1)).map AV.str) (strValues l)
 | []=>rfl
 | (x,t) :: l=>⟨_,_,rfl,⟨t,rfl⟩,N7⟩
theorem GG:∀ {vs:List Value} {m:List Str},StrsAre vs m→∃ l:List (Str×Tok),l.map (·.1)=m∧strValues l=vs
 | _,_,.nil=>⟨[],rfl,rfl⟩
 | _,_,.cons y t h=>by
  refine ob12 (GG h) fun l h1 h2=>?_
  exact ⟨(y,t) :: l,by simp [h1],by rw [← h2]; rfl⟩
theorem SQ {K:Type} [DecidableEq K] {ks:List K} {vs:List Value} {k:K} {v:Value} (h:valueAt (ks.zip vs) k=none) (hl:ks.length=vs.length):stored (ks.zip vs) k v=(ks++[k]).zip (vs++[v]):=by
 rw [PyProof.Rows.stored_absent h,List.zip_append hl]; rfl
theorem IB {o:Obj} {K K':Type} [DecidableEq K] [DecidableEq K'] {knd:KeyKind prog w K} {knd':KeyKind prog w K'} (h:o.IsDictOf knd []):o.IsDictOf knd' []:=by
 (refine ob25 h ?_; clear h; intro es ep h1 h2 h3 h4 h5)
 obtain ⟨l⟩:=es
 cases l with
 | nil=>exact ⟨#[],ep,h1,h2,fun e he=>by simp at he,.nil,by simp⟩
 | cons e r=>cases h4
theorem acH {ks:List Int} {l:List AV} {vs:List Value} {V:Vis} {h:Heap} {a:Addr} (hd:h.DictOf (intKind prog w) a (ks.zip vs)) (hl:ks.length=vs.length) (hh:HasL prog w V ρ l vs):OwnAt prog w V ρ h a (.dI ks l):=by
 refine ob12 (Heap.dictOf_iff.mp hd) fun o h1 h2=>?_
 exact ⟨o,vs,h1,h2,hl,hh⟩
theorem ajH {ks:List Str} {l:List AV} {vs:List Value} {V:Vis} {h:Heap} {a:Addr} (hd:h.DictOf (PySem.strKind prog w) a (ks.zip vs)) (hl:ks.length=vs.length) (hh:HasL prog w V ρ l vs):OwnAt prog w V ρ h a (.dS ks l):=by
 refine ob12 (Heap.dictOf_iff.mp hd) fun o h1 h2=>?_
 exact ⟨o,vs,h1,h2,hl,hh⟩
theorem IQ {C:Prop} {α:Type} {v:AV} {k:Nat→R α} {P:α→Prop} {X:Prop} (h:(VE v k).Holds P X) (K:∀ n,v=.loc n→(k n).Holds P X→C):C:=by
 cases v<;>first | exact h.elim | exact K _ rfl h
theorem IR {C:Prop} {α:Type} {n:Nat} {k:AV→R α} {P:α→Prop} {X:Prop} (h:(SI sl n k).Holds P X) (K:∀ c,sl[n]?=some (.own c)→(k c).Holds P X→C):C:=by
 unfold SI at h
 cases e:sl[n]? with
 | none=>rw [e] at h; exact h.elim
 | some σ=>
  rw [e] at h
  cases σ with
  | own c=>exact K c e h
  | frz t=>exact h.elim
theorem Z2 {C:Prop} {V:Vis} {hp:Heap} {a:Addr} {α:Type} {c:AV} {k:List Int→List AV→R α} {P:α→Prop} {X:Prop} (h:(onDI c k).Holds P X) (hc:OwnAt prog w V ρ hp a c) (K:∀ ks l,OwnAt prog w V ρ hp a (.dI ks l)→(k ks l).Holds P X→C):C:=by
 cases c<;>try exact h.elim
 ·rename_i ks l
  cases ks<;>cases l<;>try exact h.elim
  exact ob24 hc fun o vs h1 h2 h3 h4=>K [] [] ⟨o,vs,h1,(show vs=[] from h4) ▸ IB ((show vs=[] from h4) ▸ h2),h3,h4⟩ h
 ·exact K _ _ hc h
theorem N8 {k:MK} {o:AV} (x:Value) {args:List AV} (vs:List Value) (I:Inv prog w F env sl ρ s) (ho:Has prog w (Vw F sl ρ s.heap) ρ o x) (hx:HasL prog w (Vw F sl ρ s.heap) ρ args vs) {P:Option SL×AV→Prop} {X:Prop} {Q E:Value→Shared→Prop}
  (h:(Q2 k sl o args).Holds P X) (hQ:∀ v s',QE prog w F env sl ρ s P v s'→Q v s'):wpAny (model prog w) A (call (.builtin k.id) (x :: vs)) Q E s:=by
 cases k with
 | get=>
  revert vs
  refine IZ h fun kk r h key hk=>?_
  refine DR h fun df h dval hdf=>?_
  refine AX h fun dv e h=>ob13 (GX I e ho) fun a e1 hs hd=>?_
  rw [e1]
  exact RC (df:=some df) (dval:=some dval) hd hk ⟨dval,rfl,hdf⟩ (BL h) fun K _ knd kk' f e3 e2 g=>ob12 g fun av e4 e5=>call_meetsIn PySem.F.slot_dict_get e2.typeIs PySem.F.entry_dict_get (PySem.F.args_dict_get_3 _ _ _) (meets_dict_get_default knd a e3 hs dval) ⟨f,e2,hQ _ _ (A9 I (.tok _) e4 e5)⟩
 | split=>
  revert x
  refine EL h fun x t h=>?_
  revert vs
  refine DR h fun v h=>?_
  refine EL h fun y u h=>ob02 (AA h) fun hz h=>?_
  simp only [Bool.and_eq_true,Bool.not_eq_true'] at hz
  have hb:=BR hz.1
  refine SP hz.2 (fun l k e=>hQ _ _ (A9 I (.push _ _) (av:=.lst _) ⟨_,strValues l,0,rfl,C2 I (AJ _) (Heap.get?_push_size _ rfl),?_⟩ h)) (BM (by omega))
  rw [← e]; exact N7
 | count=>
  revert x
  refine EL h fun x t h=>?_
  revert vs
  refine DR h fun v h=>?_
  exact EL h fun y u h=>SC.count (hQ _ _ (A9 I (.tok _) (av:=.num _) ⟨_,rfl⟩ h))
 | join=>
  revert x
  refine EL h fun x t h=>?_
  revert vs
  refine DR h fun v h=>?_
  refine L5 h fun l a us n hv hl h=>AX h fun ts e h=>ob02 (AA h) fun hz h=>ob12 (GG (DO e hl)) fun l e1 e2=>?_
  exact SC.join (l:=l) ⟨_,hv.1,rfl,n,by rw [e2]⟩ e1 hz fun t' k=>hQ _ _ (A9 I (.tok _) (av:=.str _) ⟨_,rfl⟩ h)
 | append=>
  refine IQ h fun n eo h=>?_
  rw [eo] at ho
  revert vs
  refine DR h fun v h val hv=>?_
  refine IR h fun c e h=>IP h fun l ec h=>ob02 (AA h) fun hz h=>?_
  rw [ec] at e
  have hb:=BR hz
  refine ob13 (I.slot ho e) fun a ex hr hs=>ob22 hs fun us m h1 h2=>?_
  rw [ex]
  have hl:=h2.length
  refine append_at h1 (fun h' hs hg=>?_) (by rw [sizeLine_eq]; simp; omega)
  have ks:=BS hs
  have hvs:=EE I e hr ks
  have hc:OwnAt prog w (Vw F sl ρ h') ρ h' a (.lst (l++[v])):=
   ⟨us++[val],m+1,by rw [hg]; simp,(HasL.mono prog w hvs (fun _ _ e=>e) _ _ h2).append ⟨val,[],rfl,Has.mono prog w hvs (fun _ _ e=>e) _ _ hv,rfl⟩⟩
  refine ob02 (I.store (s':={ s with heap:=h' }) e hr ks rfl rfl rfl hc) fun I' ev=>?_
  exact hQ _ _ ⟨some _,.none,ρ,I',rfl,ev,h⟩
 | setdefault=>
  refine IQ h fun n eo h=>?_
  rw [eo] at ho
  revert vs
  refine IZ h fun kv r h key hk=>?_
  refine DR h fun df h dval hdf=>?_
  refine IR h fun c e h=>ob13 (I.slot ho e) fun a ex hr hs=>Z2 h hs fun ks l hs h=>ob24 hs fun ob us h1 h2 h3 h4=>?_
  rw [ex]
  revert key
  refine FQ h fun y t h=>ob02 (AA h) fun hz h=>?_
  have hb:=BR hz
  have hs:=I.ownNotSm e hr
  have hd:s.heap.DictOf (intKind prog w) a (ks.zip us):=Heap.dictOf_iff.mpr ⟨ob,h1,h2⟩
  have lk:=I1 (x:=y) h4 h3
  have hlen:(ks.zip us).length≤sizeLine:=by rw [List.length_zip,← h3,Nat.min_self]; exact BM (by omega)
  refine call_meetsIn PySem.F.slot_dict_setdefault hd.typeIs PySem.F.entry_dict_setdefault (PySem.F.args_dict_setdefault_3 _ _ _) (kt_meets_setdefault (intKind prog w) a (intKind_is prog w y t) hs dval) ?_
  refine DD h (fun av e1 h=>?_) fun e1 h=>?_
  ·rw [e1] at lk
   refine ob12 lk fun v e2 e3=>⟨_,hd,hlen,fun v' hv'=>?_,fun hn=>(nomatch e2.symm.trans hn)⟩
   rw [← Option.some.inj (e2.symm.trans hv')]
   exact hQ _ _ (A9 I (.tok _) e3 h)
  ·rw [e1] at lk
   refine ⟨_,hd,hlen,fun v' hv'=>(nomatch lk.symm.trans hv'),fun hn h' hd' hsb=>?_⟩
   have kp:=BS hsb
   have hvs:=EE I e hr kp
   rw [SQ lk h3] at hd'
   have hc:OwnAt prog w (Vw F sl ρ h') ρ h' a (.dI (ks++[y]) (l++[df])):=
    acH hd' (by simp [h3]) ((HasL.mono prog w hvs (fun _ _ e=>e) _ _ h4).append ⟨dval,[],rfl,Has.mono prog w hvs (fun _ _ e=>e) _ _ hdf,rfl⟩)
   refine ob02 (I.store (s':={ s with heap:=h',toks:=s.toks+1 }) e hr kp rfl rfl rfl hc) fun I' ev=>?_
   exact hQ _ _ ⟨some _,df,ρ,I',ev.has hdf,ev,h⟩
end
end Mine
end
section
open PySem.SeqAt
namespace Mine
section
variable {prog:Program} {w:World} {EO:Value→Shared→Prop} {F:Frm} {env:AEnv} {sl:SL} {ρ:List Addr} {s:Shared} {A:Around} {d:Nat}
theorem BU:∀ {x:RE} {r:Prop×AV} {X:Prop},E6 x=some r→r.1→x.Holds (fun q=>q=(none,r.2)) X
 | .ret (none,v),r,_,h,_=>by rw [← Option.some.inj (show some (True,v)=some r from h)]; exact rfl
 | .ret (some _,_),_,_,h,_=>A0 h
 | .need q x,r,X,h,hp=>AS (show ((E6 x).bind fun t=>some (q∧t.1,t.2))=some r from h) fun t e h=>by
  rw [← Option.some.inj h] at hp ⊢; exact ⟨hp.1,BU (r:=t) e hp.2⟩
 | .ite _ _ _,_,_,h,_=>A0 h
 | .exc,_,_,h,_=>A0 h
 | .fail,_,_,h,_=>A0 h
section
variable (prog:Program) (w:World) (EO:Value→Shared→Prop)
def QB (F:Frm) (env:AEnv) (sl:SL) (ρ:List Addr) (s:Shared) (P:Option SL×AV→Prop) (b:Bool) (s':Shared):Prop:=QE prog w F env sl ρ s P (.bool b) s'
def TriB (F:Frm) (env:AEnv) (sl:SL) (ρ:List Addr) (s:Shared) (A:Around) (x:RE) (t:Sem Bool):Prop:=
 ∀ (P:Option SL×AV→Prop) (X:Prop) (Q:Bool→Shared→Prop) (E:Value→Shared→Prop),x.Holds (fun p=>(AQ p.2).isSome=true∧P p) X→(∀ b s',QB prog w F env sl ρ s P b s'→Q b s')→OnExc prog w EO F sl ρ s X E→wpAny (model prog w) A t Q E s
def Ok (F:Frm) (env:AEnv) (A:Around) (ev:Expr→SL→RE):Prop:=∀ e sl ρ s,Inv prog w F env sl ρ s→Tri prog w EO F env sl ρ s A (ev e sl) (eval e F.env)
def OkB (F:Frm) (env:AEnv) (A:Around) (ev:Expr→SL→RE):Prop:=∀ e sl ρ s,Inv prog w F env sl ρ s→TriB prog w EO F env sl ρ s A (ev e sl) (isTrue e F.env (eval e F.env))
end
theorem GY {V:Vis} {a:AV} {v:Value} (h:(AQ a).isSome=true) (hv:Has prog w V ρ a v):∃ b c,AQ a=some (b,c)∧v=.bool b:=by
 (refine ob11 (Option.isSome_iff_exists.mp h) fun ζ1 e=>?_; obtain ⟨b,c⟩:=ζ1)
 exact ⟨b,c,e,BP e hv⟩
theorem Tri.fail {t:Sem Value}:Tri prog w EO F env sl ρ s A .fail t:=fun _ _ _ _ h _ _=>h.elim
theorem Tri.ret {x:AV} {t:Sem Value} (I:Inv prog w F env sl ρ s) (h:∀ Q E,(∀ v s',Calm F sl ρ s s'→Has prog w (Vw F sl ρ s'.heap) ρ x v→Q v s')→wpAny (model prog w) A t Q E s):Tri prog w EO F env sl ρ s A (.ret (none,x)) t:=
 fun _ _ Q E hp hQ _=>h Q E fun v s' c hv=>hQ v s' (A9 I c hv hp)
theorem QE.sub {P P':Option SL×AV→Prop} {v:Value} {s':Shared} (h:QE prog w F env sl ρ s P v s') (hp:∀ q,P q→P' q):QE prog w F env sl ρ s P' v s':=by
 (refine ob34 h ?_; clear h; intro o av ρ' h1 h2 h3 h4)
 exact ⟨o,av,ρ',h1,h2,h3,hp _ h4⟩
theorem Tri.ite {b:Bool} {x y:RE} {t:Sem Value} (h1:b=true→Tri prog w EO F env sl ρ s A x t) (h2:b=false→Tri prog w EO F env sl ρ s A y t):Tri prog w EO F env sl ρ s A (.ite b x y) t:=
 fun P X Q E h hQ hE=>by
  cases b with
  | true=>exact h1 rfl P X Q E (h.1 rfl) hQ hE
  | false=>exact h2 rfl P X Q E (h.2 rfl) hQ hE
theorem TriB.ite {b:Bool} {x y:RE} {t:Sem Bool} (h1:b=true→TriB prog w EO F env sl ρ s A x t) (h2:b=false→TriB prog w EO F env sl ρ s A y t):TriB prog w EO F env sl ρ s A (.ite b x y) t:=
 fun P X Q E h hQ hE=>by
  cases b with
  | true=>exact h1 rfl P X Q E (h.1 rfl) hQ hE
  | false=>exact h2 rfl P X Q E (h.2 rfl) hQ hE
theorem Tri.pre {x:RE} {t t':Sem Value} (h:Tri prog w EO F env sl ρ s A x t) (k:∀ Q E,wpAny (model prog w) A t Q E s→wpAny (model prog w) A t' Q E s):Tri prog w EO F env sl ρ s A x t':=
 fun P X Q E hh hQ hE=>k _ _ (h P X Q E hh hQ hE)
theorem TriB.pre {x:RE} {t t':Sem Bool} (h:TriB prog w EO F env sl ρ s A x t) (k:∀ Q E,wpAny (model prog w) A t Q E s→wpAny (model prog w) A t' Q E s):TriB prog w EO F env sl ρ s A x t':=
 fun P X Q E hh hQ hE=>k _ _ (h P X Q E hh hQ hE)
theorem LB {P:Option SL×AV→Prop} {av:AV} {b:Bool} (I:Inv prog w F env sl ρ s) (hv:Has prog w (Vw F sl ρ s.heap) ρ av (.bool b)) (h:P (none,av)):QB prog w F env sl ρ s P b s:=
 A9 I (.tok s.toks) hv h
theorem TriB.seq {x:RE} {k:AV→SL→RE} {t:Sem Value} {u:Value→Sem Bool} (hx:Tri prog w EO F env sl ρ s A x t)
  (hk:∀ v av sl₁ ρ₁ s₁,Inv prog w F env sl₁ ρ₁ s₁→Has prog w (Vw F sl₁ ρ₁ s₁.heap) ρ₁ av v→Evo F sl ρ s sl₁ ρ₁ s₁→TriB prog w EO F env sl₁ ρ₁ s₁ A (k av sl₁) (u v))
  {P:Option SL×AV→Prop} {X:Prop} {Q:Bool→Shared→Prop} {E:Value→Shared→Prop} (h:(seqE x sl k).Holds (fun p=>(AQ p.2).isSome=true∧P p) X) (hQ:∀ v s',QB prog w F env sl ρ s P v s'→Q v s') (hE:OnExc prog w EO F sl ρ s X E) :
  wpAny (model prog w) A t (fun v s₁=>wpAny (model prog w) A (u v) Q E s₁) E s:=by
 refine hx _ X _ _ (BB h) (fun v s₁ h₁=>?_) hE
 (refine ob34 h₁ ?_; clear h₁; intro o av ρ₁ I hv ev hp)
 refine hk v av _ ρ₁ s₁ I hv ev (fun q=>P (B9 o q.1,q.2)) X _ _ hp (fun v' s₂ h₂=>hQ v' s₂ ?_) (hE.after ev)
 (refine ob34 h₂ ?_; clear h₂; intro o₂ av₂ ρ₂ I₂ hv₂ ev₂ hp₂)
 refine ⟨B9 o o₂,av₂,ρ₂,?_,?_,?_,hp₂⟩<;>rw [BH]
 ·exact I₂
 ·exact hv₂
 ·exact ev.trans ev₂
theorem TriB.then {x:RE} {k:AV→SL→RE} {t:Sem Bool} {u:Bool→Sem Value} (hx:TriB prog w EO F env sl ρ s A x t)
  (hb:∀ av sl,(AQ av).isSome=false→∀ P X,¬ (k av sl).Holds P X)
  (hk:∀ b av sl₁ ρ₁ s₁,Inv prog w F env sl₁ ρ₁ s₁→Has prog w (Vw F sl₁ ρ₁ s₁.heap) ρ₁ av (.bool b)→Evo F sl ρ s sl₁ ρ₁ s₁→Tri prog w EO F env sl₁ ρ₁ s₁ A (k av sl₁) (u b))
  {P:Option SL×AV→Prop} {X:Prop} {Q E:Value→Shared→Prop} (h:(seqE x sl k).Holds P X) (hQ:∀ v s',QE prog w F env sl ρ s P v s'→Q v s') (hE:OnExc prog w EO F sl ρ s X E) :
  wpAny (model prog w) A t (fun v s₁=>wpAny (model prog w) A (u v) Q E s₁) E s:=by
 have hh:x.Holds (fun p=>(AQ p.2).isSome=true∧(k p.2 (p.1.getD sl)).Holds (fun q=>P (B9 p.1 q.1,q.2)) X) X:=
  R.holds_mono (fun q hq=>⟨by
   cases e:(AQ q.2).isSome with
   | true=>rfl
   | false=>exact (hb _ _ e _ _ hq).elim,hq⟩) id (BB h)
 refine hx _ X _ _ hh (fun v s₁ h₁=>?_) hE
 (refine ob34 h₁ ?_; clear h₁; intro o av ρ₁ I hv ev hp)
 refine hk v av _ ρ₁ s₁ I hv ev _ X _ _ hp (fun v' s₂ h₂=>hQ v' s₂ ?_) (hE.after ev)
 (refine ob34 h₂ ?_; clear h₂; intro o₂ av₂ ρ₂ I₂ hv₂ ev₂ hp₂)
 refine ⟨B9 o o₂,av₂,ρ₂,?_,?_,?_,hp₂⟩<;>rw [BH]
 ·exact I₂
 ·exact hv₂
 ·exact ev.trans ev₂
theorem TriB.thenB {x:RE} {k:AV→SL→RE} {t:Sem Bool} {u:Bool→Sem Bool} (hx:TriB prog w EO F env sl ρ s A x t)
  (hb:∀ av sl,(AQ av).isSome=false→∀ P X,¬ (k av sl).Holds P X)
  (hk:∀ b av sl₁ ρ₁ s₁,Inv prog w F env sl₁ ρ₁ s₁→Has prog w (Vw F sl₁ ρ₁ s₁.heap) ρ₁ av (.bool b)→Evo F sl ρ s sl₁ ρ₁ s₁→TriB prog w EO F env sl₁ ρ₁ s₁ A (k av sl₁) (u b))
  {P:Option SL×AV→Prop} {X:Prop} {Q:Bool→Shared→Prop} {E:Value→Shared→Prop} (h:(seqE x sl k).Holds (fun p=>(AQ p.2).isSome=true∧P p) X) (hQ:∀ v s',QB prog w F env sl ρ s P v s'→Q v s') (hE:OnExc prog w EO F sl ρ s X E) :
  wpAny (model prog w) A t (fun v s₁=>wpAny (model prog w) A (u v) Q E s₁) E s:=by
 have hh:x.Holds (fun p=>(AQ p.2).isSome=true∧(k p.2 (p.1.getD sl)).Holds (fun q=>(AQ (B9 p.1 q.1,q.2).2).isSome=true∧P (B9 p.1 q.1,q.2)) X) X:=
  R.holds_mono (fun q hq=>⟨by
   cases e:(AQ q.2).isSome with
   | true=>rfl
   | false=>exact (hb _ _ e _ _ hq).elim,hq⟩) id (BB h)
 refine hx _ X _ _ hh (fun v s₁ h₁=>?_) hE
 (refine ob34 h₁ ?_; clear h₁; intro o av ρ₁ I hv ev hp)
 refine hk v av _ ρ₁ s₁ I hv ev (fun q=>P (B9 o q.1,q.2)) X _ _ hp (fun v' s₂ h₂=>hQ v' s₂ ?_) (hE.after ev)
 (refine ob34 h₂ ?_; clear h₂; intro o₂ av₂ ρ₂ I₂ hv₂ ev₂ hp₂)
 refine ⟨B9 o o₂,av₂,ρ₂,?_,?_,?_,hp₂⟩<;>rw [BH]
 ·exact I₂
 ·exact hv₂
 ·exact ev.trans ev₂
theorem acI {e:Expr} (h:(!isK 22 e)=true):∀ x p,e≠.Starred x p:=fun x p q=>by rw [q] at h; exact nomatch h
theorem DL {e:Expr} {r:List Expr} {env:Env} (h:∀ x p,e≠.Starred x p):starEach (e :: r) env=(false,eval e env) :: starEach r env:=by
 cases e<;>first | rfl | exact absurd rfl (h _ _)
theorem GH {ev:Expr→SL→RE} (hev:Ok prog w EO F env A ev) (pos:Pos):∀ (es:List Expr) (sl:SL) (ρ:List Addr) (s:Shared),Inv prog w F env sl ρ s→TriL prog w EO F env sl ρ s A (evL ev es sl) (spliced (backTo pos (starEach es F.env)))
 | [],sl,ρ,s,I=>fun P X Q E h hQ _=>spliced_nil (hQ _ _ ⟨none,[],ρ,I,rfl,.refl ..,h⟩)
 | e :: r,sl,ρ,s,I=>fun P X Q E h hQ hE=>by
  refine ob02 (AA h) fun hne h=>?_
  rw [DL (acI hne)]
  refine spliced_cons ?_
  refine hev e sl ρ s I _ X _ _ (FN h) (fun v s₁ h₁=>?_) hE
  (refine ob34 h₁ ?_; clear h₁; intro o av ρ₁ I₁ hv ev₁ hp)
  refine GH hev pos r _ ρ₁ s₁ I₁ _ X _ _ (R.holds_bind hp) (fun vs s₂ h₂=>hQ _ _ ?_) (hE.after ev₁)
  (refine ob34 h₂ ?_; clear h₂; intro o₂ avs ρ₂ I₂ hvs ev₂ hp₂)
  rw [← BH o o₂ sl] at I₂ hvs ev₂
  exact ⟨B9 o o₂,av :: avs,ρ₂,I₂,⟨v,vs,rfl,(by rw [BH] at ev₂ ⊢; exact ev₂.has hv),hvs⟩,ev₁.trans (by rw [BH] at ev₂ ⊢; exact ev₂),hp₂⟩
theorem PQ {ev:Expr→SL→RE} {X:Prop}:∀ (es:List Expr) (sl:SL) (P:Option SL×List AV→Prop),(evL ev es sl).Holds P X→(evL ev es sl).Holds (fun q=>P q∧q.2.length=es.length) X
 | [],_,_,h=>⟨h,rfl⟩
 | e :: r,sl,P,h=>by
  refine ob02 (AA h) fun hne h=>?_
  show (AO (!isK 22 e) (seqL (ev e sl) sl _)).Holds _ _
  rw [hne]
  refine R.holds_bind' (R.holds_mono (fun q hq=>?_) id (R.holds_bind h))
  obtain ⟨o,v⟩:=q
  have k:∀ {sl':SL} {P':Option SL×List AV→Prop},((evL ev r sl').bind fun q=>.ret (q.1,v :: q.2)).Holds P' X→((evL ev r sl').bind fun q=>.ret (q.1,v :: q.2)).Holds (fun q=>P' q∧q.2.length=r.length+1) X:=fun h=>
   R.holds_bind' (R.holds_mono (fun q hq=>⟨hq.1,congrArg (·+1) hq.2⟩) id (PQ r _ _ (R.holds_bind h)))
  cases o with
  | none=>exact k hq
  | some sl₁=>exact R.holds_bind' (k (R.holds_bind hq))
end
end Mine
end
section
open PySem.SeqAt
namespace Mine
section
variable {prog:Program} {w:World} {EO:Value→Shared→Prop} {F:Frm} {env:AEnv} {sl:SL} {ρ:List Addr} {s:Shared} {A:Around} {d:Nat}
theorem LC (op:BoolOp) (ev:Expr→SL→RE) (e e':Expr) (r:List Expr) (sl:SL):SG op ev (e :: e' :: r) sl=seqE (ev e sl) sl fun v sl=>IX op (SG op ev (e' :: r) sl) v:=rfl
theorem I7 {P:Option SL×AV→Prop} {u av:AV} {v:Value} {s':Shared} (h:QE prog w F env sl ρ s (fun q=>q=(none,u)) v s') (hv:∀ V ρ',Has prog w V ρ' u v→Has prog w V ρ' av v) (hp:P (none,av)):QE prog w F env sl ρ s P v s':=by
 (refine ob34 h ?_; clear h; intro o av' ρ' h1 h2 h3 h4)
 injection h4 with h4 h5
 subst h4 h5
 exact ⟨none,av,ρ',h1,hv _ _ h2,h3,hp⟩
theorem RF {op:BoolOp} {rest:RE} {t:Sem Value} {v:Value} {av:AV} (I:Inv prog w F env sl ρ s) (hv:Has prog w (Vw F sl ρ s.heap) ρ av v) (hr:Tri prog w EO F env sl ρ s A rest t) :
  ∀ {u:Sem Value},(∀ b,v=.bool b→∀ Q E,wpAny (model prog w) A (match op,b with | .And,false=>pure v | .Or,true=>pure v | _,_=>t) Q E s→wpAny (model prog w) A u Q E s)→Tri prog w EO F env sl ρ s A (IX op rest av) u:=by
 intro u hu
 cases av with
 | bool b=>
  have e:v=.bool b:=hv
  refine Tri.pre ?_ (hu b e)
  cases op<;>cases b
  ·exact Tri.ret I fun Q E k=>wpAny_pure (k _ _ (.tok s.toks) hv)
  ·exact hr
  ·exact hr
  ·exact Tri.ret I fun Q E k=>wpAny_pure (k _ _ (.tok s.toks) hv)
 | sb b=>
  have e:v=.bool b:=hv
  refine Tri.pre ?_ (hu b e)
  intro P X Q E h hQ hE
  cases op with
  | And=>
   refine DD h (fun q hp h=>AX h fun c hc h=>ob02 h fun h1 h2=>?_) fun _ h=>?_
   ·cases b with
    | false=>exact wpAny_pure (hQ _ _ (A9 I (.tok s.toks) (av:=.sb (false&&c.1)) hv h2))
    | true=>
     refine hr _ False Q E (BU hp (h1 rfl)) (fun v' s' hq=>hQ _ _ (I7 hq (fun V ρ' hh=>?_) h2)) (fun hX=>hX.elim)
     rw [BP (i:=c.1) (b:=c.2) hc hh]; rfl
   ·cases b with
    | false=>exact wpAny_pure (hQ _ _ (A9 I (.tok s.toks) (av:=.bool false) hv (h.2 rfl)))
    | true=>exact hr P X Q E (h.1 rfl) hQ hE
  | Or=>
   refine DD h (fun q hp h=>AX h fun c hc h=>ob02 h fun h1 h2=>?_) fun _ h=>?_
   ·cases b with
    | true=>exact wpAny_pure (hQ _ _ (A9 I (.tok s.toks) (av:=.sb (true||c.1)) hv h2))
    | false=>
     refine hr _ False Q E (BU hp (h1 rfl)) (fun v' s' hq=>hQ _ _ (I7 hq (fun V ρ' hh=>?_) h2)) (fun hX=>hX.elim)
     rw [BP (i:=c.1) (b:=c.2) hc hh]; rfl
   ·cases b with
    | true=>exact wpAny_pure (hQ _ _ (A9 I (.tok s.toks) (av:=.bool true) hv (h.1 rfl)))
    | false=>exact hr P X Q E (h.2 rfl) hQ hE
 | _=>exact Tri.fail
theorem RG {ev:Expr→SL→RE} (hev:Ok prog w EO F env A ev) (pos:Pos) (op:BoolOp):∀ (es:List Expr) (sl:SL) (ρ:List Addr) (s:Shared),Inv prog w F env sl ρ s→Tri prog w EO F env sl ρ s A (SG op ev es sl) (boolOp pos op (evalEach es F.env))
 | [],_,_,_,_=>Tri.fail
 | [e],sl,ρ,s,I=>hev e sl ρ s I
 | e :: e' :: r,sl,ρ,s,I=>fun P X Q E h hQ hE=>by
  rw [LC] at h
  refine wpAny_bind (Tri.seq (u:=fun v=>(do standAt pos; let t ← holding [v] (truthy v); match op,t with | .And,false | .Or,true=>pure v | _,_=>boolOp pos op (evalEach (e' :: r) F.env))) (hev e sl ρ s I) (fun v av sl₁ ρ₁ s₁ I₁ hv ev₁=>?_) h hQ hE)
  refine RF I₁ hv (RG hev pos op (e' :: r) sl₁ ρ₁ s₁ I₁) fun b e Q' E' k=>?_
  subst e
  refine wpAny_bind (wpAny_standAt (wpAny_bind (wpAny_holding (wpAny_truthy_bool ?_))))
  cases op<;>cases b<;>exact k
theorem PR {P:Option SL×AV→Prop} {u av:AV} {b:Bool} {s':Shared} (h:QB prog w F env sl ρ s (fun q=>q=(none,u)) b s') (hv:∀ V ρ',Has prog w V ρ' u (.bool b)→Has prog w V ρ' av (.bool b)) (hp:P (none,av)):QB prog w F env sl ρ s P b s':=I7 h hv hp
theorem N9 {op:BoolOp} {rest:RE} {t:Sem Bool} {b:Bool} {av:AV} (I:Inv prog w F env sl ρ s) (hv:Has prog w (Vw F sl ρ s.heap) ρ av (.bool b)) (hr:TriB prog w EO F env sl ρ s A rest t) :
  ∀ {u:Sem Bool},(∀ Q E,wpAny (model prog w) A (match op,b with | .And,false=>pure false | .Or,true=>pure true | _,_=>t) Q E s→wpAny (model prog w) A u Q E s)→TriB prog w EO F env sl ρ s A (IX op rest av) u:=by
 intro u hu
 cases av with
 | bool c=>
  have e:Value.bool b=.bool c:=hv
  injection e with e
  subst e
  refine TriB.pre ?_ hu
  cases op<;>cases b
  ·exact fun P X Q E h hQ _=>wpAny_pure (hQ _ _ (LB I hv h.2))
  ·exact hr
  ·exact hr
  ·exact fun P X Q E h hQ _=>wpAny_pure (hQ _ _ (LB I hv h.2))
 | sb c=>
  have e:Value.bool b=.bool c:=hv
  injection e with e
  subst e
  refine TriB.pre ?_ hu
  intro P X Q E h hQ hE
  cases op with
  | And=>
   refine DD h (fun q hp h=>AX h fun c hc h=>ob03 h fun h1 _ h2=>?_) fun _ h=>?_
   ·cases b with
    | false=>exact wpAny_pure (hQ _ _ (LB (av:=.sb (false&&c.1)) I hv h2))
    | true=>
     refine hr (fun z=>z=(none,q.2)) False Q E (R.holds_mono (fun z hz=>⟨by rw [hz,hc]; rfl,hz⟩) id (BU hp (h1 rfl))) (fun v' s' hq=>hQ _ _ (PR hq (fun V ρ' hh=>?_) h2)) (fun hX=>hX.elim)
     rw [BP (i:=c.1) (b:=c.2) hc hh]; rfl
   ·cases b with
    | false=>exact wpAny_pure (hQ _ _ (LB (av:=.bool false) I hv (h.2 rfl).2))
    | true=>exact hr P X Q E (h.1 rfl) hQ hE
  | Or=>
   refine DD h (fun q hp h=>AX h fun c hc h=>ob03 h fun h1 _ h2=>?_) fun _ h=>?_
   ·cases b with
    | true=>exact wpAny_pure (hQ _ _ (LB (av:=.sb (true||c.1)) I hv h2))
    | false=>
     refine hr (fun z=>z=(none,q.2)) False Q E (R.holds_mono (fun z hz=>⟨by rw [hz,hc]; rfl,hz⟩) id (BU hp (h1 rfl))) (fun v' s' hq=>hQ _ _ (PR hq (fun V ρ' hh=>?_) h2)) (fun hX=>hX.elim)
     rw [BP (i:=c.1) (b:=c.2) hc hh]; rfl
   ·cases b with
    | true=>exact wpAny_pure (hQ _ _ (LB (av:=.bool true) I hv (h.1 rfl).2))
    | false=>exact hr P X Q E (h.2 rfl) hQ hE
 | _=>exact fun _ _ _ _ h _ _=>h.elim
theorem OA {op:BoolOp} {rest:RE} {av:AV} (h:(AQ av).isSome=false):∀ (P:Option SL×AV→Prop) (X:Prop),¬ (IX op rest av).Holds P X:=by
 cases av<;>first | exact fun P X h=>h | exact nomatch h
noncomputable def aeZ (op:BoolOp) (b:Bool) (t:Sem Bool):Sem Bool:=match op,b with
 | .And,false=>pure false
 | .Or,true=>pure true
 | _,_=>t
theorem OB {ev:Expr→SL→RE} (hev:OkB prog w EO F env A ev) (op:BoolOp):∀ (es:List Expr) (sl:SL) (ρ:List Addr) (s:Shared),Inv prog w F env sl ρ s→TriB prog w EO F env sl ρ s A (SG op ev es sl) (allTrue op es F.env)
 | [],_,_,_,_=>fun _ _ _ _ h _ _=>h.elim
 | [e],sl,ρ,s,I=>fun P X Q E h hQ hE=>by
  show wpAny _ _ (do match op,← isTrue e F.env (eval e F.env) with | .And,false=>pure false | .Or,true=>pure true | _,_=>allTrue op [] F.env) _ _ _
  refine wpAny_bind (hev e sl ρ s I P X _ _ h (fun b s' hq=>?_) hE)
  cases op<;>cases b<;>exact wpAny_pure (hQ _ _ hq)
 | e :: e' :: r,sl,ρ,s,I=>fun P X Q E h hQ hE=>by
  rw [LC] at h
  show wpAny _ _ (do match op,← isTrue e F.env (eval e F.env) with | .And,false=>pure false | .Or,true=>pure true | _,_=>allTrue op (e' :: r) F.env) _ _ _
  refine wpAny_bind (wpAny_mono (TriB.thenB (u:=fun b=>aeZ op b (allTrue op (e' :: r) F.env)) (hev e sl ρ s I) (fun av sl h P X=>OA h P X) (fun b av sl₁ ρ₁ s₁ I₁ hv ev₁=>?_) h hQ hE) (fun b s' k=>?_) fun _ _ x=>x)
  ·refine N9 I₁ hv (OB hev op (e' :: r) sl₁ ρ₁ s₁ I₁) fun Q' E' k=>?_
   cases op<;>cases b<;>exact k
  ·cases op<;>cases b<;>exact k
end
end Mine
end
section
open PySem.SeqAt
namespace Mine
section
variable {prog:Program} {w:World} {EO:Value→Shared→Prop} {F:Frm} {env:AEnv} {sl:SL} {ρ:List Addr} {s:Shared} {A:Around} {d:Nat}
theorem V0 {ev:Expr→SL→RE} (hev:Ok prog w EO F env A ev) (r:Room A d) (pos:Pos):∀ (ops:List CmpOp) (es:List Expr) (left:AV) (lv:Value) (sl:SL) (ρ:List Addr) (s:Shared),Inv prog w F env sl ρ s→Has prog w (Vw F sl ρ s.heap) ρ left lv →
  Tri prog w EO F env sl ρ s A (cmpE ev left ops es sl) (compareChain pos lv ops (markedEach ops es (evalEach es F.env)))
 | [op],[e],left,lv,sl,ρ,s,I,hl=>fun P X Q E h hQ hE=>by
  refine ob02 (AA h) fun hm h=>?_
  have hm:=(Bool.not_eq_true' _).mp hm
  ·skip
   show wpAny _ _ (do let rv ← holding [lv] (markedBehindIn op e (eval e F.env)); standAt pos; operate [lv,rv] (compareOp op lv rv)) _ _ _
   have em:markedBehindIn op e (eval e F.env)=eval e F.env:=by unfold markedBehindIn; rw [hm]
   rw [em]
   refine wpAny_bind (wpAny_holding (Tri.seq (u:=fun rv=>(do standAt pos; operate [lv,rv] (compareOp op lv rv))) (hev e sl ρ s I) (fun v av sl₁ ρ₁ s₁ I₁ hv ev₁=>?_) h hQ hE))
   refine Tri.pre (Tri.pure (t:=compareOp op lv v) (fun P X Q E h hq=>FT r (ev₁.has hl) hv h hq) I₁) fun Q E k=>?_
   exact wpAny_bind (wpAny_standAt (wpAny_operate' k))
 | op :: op' :: ops,e :: e' :: es,left,lv,sl,ρ,s,I,hl=>fun P X Q E h hQ hE=>by
  have e1:markedEach (op :: op' :: ops) (e :: e' :: es) (evalEach (e :: e' :: es) F.env)=eval e F.env :: markedEach (op' :: ops) (e' :: es) (evalEach (e' :: es) F.env):=rfl
  have e2:∀ t ts,compareChain pos lv (op :: op' :: ops) (t :: ts)=(do let rv ← holding [lv] t; standAt pos; let c ← holding [lv,rv] (compareOp op lv rv); release [lv,rv] [c]; if ← holding [c,rv] (truthy c) then compareChain pos rv (op' :: ops) ts else pure c):=fun t ts=>rfl
  rw [e1,e2]
  have h:(seqE (ev e sl) sl fun v sl=>(cmpA op left v).bind fun c=>IX .And (cmpE ev v (op' :: ops) (e' :: es) sl) c).Holds _ X:=h
  refine wpAny_bind (wpAny_holding (Tri.seq (u:=fun rv=>(do standAt pos; let c ← holding [lv,rv] (compareOp op lv rv); release [lv,rv] [c]; if ← holding [c,rv] (truthy c) then compareChain pos rv (op' :: ops) (markedEach (op' :: ops) (e' :: es) (evalEach (e' :: es) F.env)) else pure c)) (hev e sl ρ s I) (fun v av sl₁ ρ₁ s₁ I₁ hv ev₁=>?_) h hQ hE))
  intro P X Q E h hQ hE
  refine wpAny_bind (wpAny_standAt (wpAny_bind (wpAny_holding ?_)))
  have h:=R.holds_bind h
  have h2:(cmpA op left av).Holds (fun c=>(IX .And (cmpE ev av (op' :: ops) (e' :: es) sl₁) c).Holds P X) X:=h
  refine FT (P:=fun c=>(IX .And (cmpE ev av (op' :: ops) (e' :: es) sl₁) c).Holds P X) r (ev₁.has hl) hv h2 fun c s₂ ca cm hc hp=>?_
  refine wpAny_bind (wpAny_release' ?_)
  have I₂:=I₁.calm cm
  refine RF (op:=.And) (rest:=cmpE ev av (op' :: ops) (e' :: es) sl₁) (t:=compareChain pos v (op' :: ops) (markedEach (op' :: ops) (e' :: es) (evalEach (e' :: es) F.env))) (v:=c) (av:=ca) I₂ hc (V0 hev r pos (op' :: ops) (e' :: es) av v sl₁ ρ₁ s₂ I₂ (cm.evo.has hv)) (fun b e Q' E' k=>?_) P X Q E hp (fun v' s' hq=>hQ _ _ ?_) (hE.after cm.evo)
  ·subst e
   refine wpAny_bind (wpAny_holding (wpAny_truthy_bool ?_))
   cases b<;>exact k
  ·(refine ob34 hq ?_; clear hq; intro o av' ρ' h1 h2 h3 h4)
   exact ⟨o,av',ρ',h1,h2,cm.evo.trans h3,h4⟩
 | [],_,_,_,_,_,_,_,_=>fun _ _ _ _ h _ _=>h.elim
 | [_],[],_,_,_,_,_,_,_=>fun _ _ _ _ h _ _=>h.elim
 | [_],_ :: _ :: _,_,_,_,_,_,_,_=>fun _ _ _ _ h _ _=>h.elim
 | _ :: _ :: _,[],_,_,_,_,_,_,_=>fun _ _ _ _ h _ _=>h.elim
 | _ :: _ :: _,[_],_,_,_,_,_,_,_=>fun _ _ _ _ h _ _=>h.elim
theorem RH {ev:Expr→SL→RE} (hev:Ok prog w EO F env A ev) (r:Room A d) (pos:Pos):∀ (ops:List CmpOp) (es:List Expr) (left:AV) (lv:Value) (sl:SL) (ρ:List Addr) (s:Shared),Inv prog w F env sl ρ s→Has prog w (Vw F sl ρ s.heap) ρ left lv →
  TriB prog w EO F env sl ρ s A (cmpE ev left ops es sl) (testChain pos lv ops (markedEach ops es (evalEach es F.env)))
 | [op],[e],left,lv,sl,ρ,s,I,hl=>fun P X Q E h hQ hE=>by
  refine ob02 (AA h) fun hm h=>?_
  have hm:=(Bool.not_eq_true' _).mp hm
  ·skip
   show wpAny _ _ (do let rv ← holding [lv] (markedBehindIn op e (eval e F.env)); standAt pos; let c ← operate [lv,rv] (compareOp op lv rv); holding [c] (truthy c)) _ _ _
   have em:markedBehindIn op e (eval e F.env)=eval e F.env:=by unfold markedBehindIn; rw [hm]
   rw [em]
   refine wpAny_bind (wpAny_holding (TriB.seq (u:=fun rv=>(do standAt pos; let c ← operate [lv,rv] (compareOp op lv rv); holding [c] (truthy c))) (hev e sl ρ s I) (fun v av sl₁ ρ₁ s₁ I₁ hv ev₁=>?_) h hQ hE))
   intro P X Q E h hQ hE
   have h:=BL h
   refine wpAny_bind (wpAny_standAt (wpAny_bind (wpAny_operate' ?_)))
   refine FT (P:=fun c=>(AQ c).isSome=true∧P (none,c)) r (ev₁.has hl) hv h fun c s₂ ca cm hc hp=>?_
   refine ob22 (GY hp.1 hc) fun b b' _ e=>?_
   subst e
   exact wpAny_holding (wpAny_truthy_bool (hQ _ _ (A9 I₁ cm hc hp.2)))
 | op :: op' :: ops,e :: e' :: es,left,lv,sl,ρ,s,I,hl=>fun P X Q E h hQ hE=>by
  have e1:markedEach (op :: op' :: ops) (e :: e' :: es) (evalEach (e :: e' :: es) F.env)=eval e F.env :: markedEach (op' :: ops) (e' :: es) (evalEach (e' :: es) F.env):=rfl
  have e2:∀ t ts,testChain pos lv (op :: op' :: ops) (t :: ts)=(do let rv ← holding [lv] t; standAt pos; let c ← holding [lv,rv] (compareOp op lv rv); release [lv,rv] [c]; if ← holding [c,rv] (truthy c) then testChain pos rv (op' :: ops) ts else pure false):=fun t ts=>rfl
  rw [e1,e2]
  have h:(seqE (ev e sl) sl fun v sl=>(cmpA op left v).bind fun c=>IX .And (cmpE ev v (op' :: ops) (e' :: es) sl) c).Holds _ X:=h
  refine wpAny_bind (wpAny_holding (TriB.seq (u:=fun rv=>(do standAt pos; let c ← holding [lv,rv] (compareOp op lv rv); release [lv,rv] [c]; if ← holding [c,rv] (truthy c) then testChain pos rv (op' :: ops) (markedEach (op' :: ops) (e' :: es) (evalEach (e' :: es) F.env)) else pure false)) (hev e sl ρ s I) (fun v av sl₁ ρ₁ s₁ I₁ hv ev₁=>?_) h hQ hE))
  intro P X Q E h hQ hE
  refine wpAny_bind (wpAny_standAt (wpAny_bind (wpAny_holding ?_)))
  have h:=R.holds_bind h
  refine FT (P:=fun c=>(IX .And (cmpE ev av (op' :: ops) (e' :: es) sl₁) c).Holds (fun p=>(AQ p.2).isSome=true∧P p) X) r (ev₁.has hl) hv h fun c s₂ ca cm hc hp=>?_
  refine wpAny_bind (wpAny_release' ?_)
  have I₂:=I₁.calm cm
  have hb:(AQ ca).isSome=true:=by
   cases e:(AQ ca).isSome with
   | true=>rfl
   | false=>exact (OA e _ _ hp).elim
  refine ob22 (GY hb hc) fun b b' _ e=>?_
  subst e
  refine N9 (op:=.And) (rest:=cmpE ev av (op' :: ops) (e' :: es) sl₁) (t:=testChain pos v (op' :: ops) (markedEach (op' :: ops) (e' :: es) (evalEach (e' :: es) F.env))) (b:=b) (av:=ca) I₂ hc (RH hev r pos (op' :: ops) (e' :: es) av v sl₁ ρ₁ s₂ I₂ (cm.evo.has hv)) (fun Q' E' k=>?_) P X Q E hp (fun v' s' hq=>hQ _ _ ?_) (hE.after cm.evo)
  ·refine wpAny_bind (wpAny_holding (wpAny_truthy_bool ?_))
   cases b<;>exact k
  ·(refine ob34 hq ?_; clear hq; intro o av' ρ' h1 h2 h3 h4)
   exact ⟨o,av',ρ',h1,h2,cm.evo.trans h3,h4⟩
 | [],_,_,_,_,_,_,_,_=>fun _ _ _ _ h _ _=>h.elim
 | [_],[],_,_,_,_,_,_,_=>fun _ _ _ _ h _ _=>h.elim
 | [_],_ :: _ :: _,_,_,_,_,_,_,_=>fun _ _ _ _ h _ _=>h.elim
 | _ :: _ :: _,[],_,_,_,_,_,_,_=>fun _ _ _ _ h _ _=>h.elim
 | _ :: _ :: _,[_],_,_,_,_,_,_,_=>fun _ _ _ _ h _ _=>h.elim
end
end Mine
end
section
open PySem.SeqAt
namespace Mine
section
variable {prog:Program} {w:World} {EO:Value→Shared→Prop} {F:Frm} {env:AEnv} {sl:SL} {ρ:List Addr} {s:Shared} {A:Around} {d:Nat}
theorem V1 {n:Nat} {t:AV} {b:Addr} (h:OwnA (sl.set n (Slot.frz t)) ρ b):OwnA sl ρ b:=by
 (refine ob22 h ?_; clear h; intro m d h1 h2)
 by_cases e:n=m
 ·subst e
  by_cases hl:n<sl.length
  ·rw [List.getElem?_set_self hl] at h1; exact nomatch h1
  ·rw [List.set_eq_of_length_le (by omega)] at h1; exact ⟨n,d,h1,h2⟩
 ·rw [List.getElem?_set_ne e] at h1
  exact ⟨m,d,h1,h2⟩
theorem V2 {n:Nat} {t:AV} {b:Addr} (h:Mut F (sl.set n (Slot.frz t)) ρ b):Mut F sl ρ b:=
 h.elim .inl fun h=>h.elim (fun h=>.inr (.inl h)) fun h=>.inr (.inr (V1 h))
theorem V3 {n:Nat} {t:AV} {b:Addr} (h:Bad F (sl.set n (Slot.frz t)) ρ b):Bad F sl ρ b:=h.elim .inl fun h=>.inr (V2 h)
theorem V4 {n:Nat} {t:AV} {h:Heap} (b:Addr) (o:Obj) (v:Vw F sl ρ h b o):Vw F (sl.set n (Slot.frz t)) ρ h b o:=⟨v.1,fun q=>v.2.1 (V3 q),v.2.2⟩
theorem Inv.freeze (I:Inv prog w F env sl ρ s) {n:Nat} {a:Addr} {t:AV} (ha:ρ[n]?=some a) (ht:Has prog w (Vw F (sl.set n (Slot.frz t)) ρ s.heap) ρ t (.ref a)) (hn:n<sl.length) :
  Inv prog w F env (sl.set n (Slot.frz t)) ρ s∧Evo F sl ρ s (sl.set n (Slot.frz t)) ρ s:=by
 have hv:∀ b o,Vw F sl ρ s.heap b o→Vw F (sl.set n (Slot.frz t)) ρ s.heap b o:=V4
 have sub:∀ p d,(sl.set n (Slot.frz t))[p]?=some (Slot.own d)→n≠p∧sl[p]?=some (Slot.own d):=fun p d h=>by
  by_cases e:n=p
  ·subst e; rw [List.getElem?_set_self hn] at h; exact nomatch h
  ·rw [List.getElem?_set_ne e] at h; exact ⟨e,h⟩
 refine ⟨⟨I.base,I.sm,fun b h=>I.low b (V3 h),?_,?_,I.kind,I.cells,?_,?_,?_,?_,I.locX,I.frs⟩,⟨fun _ _ e _=>.of e,rfl,rfl,rfl,fun _ _ e=>e,fun b h=>.inl (V2 h),fun _ o e=>⟨o,e⟩⟩⟩
 ·refine ob12 I.ns fun m h1 h2=>?_
  exact ⟨m,h1,fun x av e k=>ob12 (h2 x av e k) fun v e1 e2=>⟨v,e1,Has.mono prog w hv (fun _ _ e=>e) av v e2⟩⟩
 ·intro x av e k
  refine ob23 (I.cell x av e k) fun q v e1 e2 e3=>?_
  exact ⟨q,v,e1,e2,Has.mono prog w hv (fun _ _ e=>e) av v e3⟩
 ·rw [List.length_set]; exact I.len
 ·intro m b σ e1 e2
  by_cases e:n=m
  ·subst e
   rw [List.getElem?_set_self hn] at e2
   injection e2 with e2
   subst e2
   rw [ha] at e1
   injection e1 with e1
   subst e1
   exact ht
  ·rw [List.getElem?_set_ne e] at e2
   exact (I.slots m b σ e1 e2).calm' hv fun _ _ _ h=>h
 ·intro p q b d d' h1 h2 h3 h4
  exact I.apart p q b _ _ (sub p d h1).2 (sub q d' h2).2 h3 h4
 ·intro b h
  exact I.ownNe b (V1 h)
def Frozen (prog:Program) (w:World) (F:Frm) (env:AEnv) (ρ:List Addr) (s:Shared) (sl sl':SL):Prop:=Inv prog w F env sl' ρ s∧Evo F sl ρ s sl' ρ s
theorem Frozen.trans {sl₁ sl₂ sl₃:SL} (x:Frozen prog w F env ρ s sl₁ sl₂) (y:Frozen prog w F env ρ s sl₂ sl₃):Frozen prog w F env ρ s sl₁ sl₃:=⟨y.1,x.2.trans y.2⟩
theorem SR (I:Inv prog w F env sl ρ s) {n:Nat} {a:Addr} {c t:AV} {o:Obj} (hn:sl[n]?=some (Slot.own c)) (ha:ρ[n]?=some a) (ho:s.heap.get? a=some o):Vw F (sl.set n (Slot.frz t)) ρ s.heap a o:=by
 have own:OwnA sl ρ a:=⟨n,c,hn,ha⟩
 have apa:=I.ownNe a own
 have hlt:=(List.getElem?_eq_some_iff.mp hn).1
 refine ⟨ho,fun q=>?_,I.ownNotSm hn ha⟩
 rcases q with q | q | ⟨x,q⟩ | ⟨m,d,h1,h2⟩
 ·exact apa.2.2 q
 ·exact apa.1 q
 ·exact apa.2.1 x q
 ·by_cases e:n=m
  ·subst e; rw [List.getElem?_set_self hlt] at h1; exact nomatch h1
  ·rw [List.getElem?_set_ne e] at h1
   exact e (I.apart n m a c d hn h1 ha h2)
theorem SS {n:Nat} (h:ownAt? sl n=true):∃ c,sl[n]?=some (Slot.own c):=B2 h fun σ e h=>by
 cases σ with
 | own c=>exact ⟨c,e⟩
 | frz t=>exact EM h
theorem Frozen.refl (I:Inv prog w F env sl ρ s):Frozen prog w F env ρ s sl sl:=⟨I,.refl ..⟩
theorem afA {V:Vis} {h:Heap} {a:Addr} {c:AV} {q:(List AV→AV)×List AV} (e:ownD c=some q) (hc:OwnAt prog w V ρ h a c) {C:Prop}
  (K:∀ o us,h.get? a=some o→HasL prog w V ρ q.2 us→(∀ (V':Vis) (l:List AV),V' a o→HasL prog w V' ρ l us→Has prog w V' ρ (q.1 l) (.ref a))→C):C:=by
 cases c<;>first | exact A0 e | (rw [← Option.some.inj e] at K)
 ·exact ob22 hc fun us n h1 h2=>K _ us h1 h2 fun V' l k1 k2=>⟨a,us,n,rfl,k1,k2⟩
 ·exact ob24 hc fun o us h1 h2 h3 h4=>K o us h1 h4 fun V' l k1 k2=>⟨a,o,us,rfl,k1,h2,h3,k2⟩
 ·exact ob24 hc fun o us h1 h2 h3 h4=>K o us h1 h4 fun V' l k1 k2=>⟨a,o,us,rfl,k1,h2,h3,k2⟩
mutual
theorem acJ:∀ (k:Nat) (sl:SL) (t:AV) (q:SL×AV) (v:Value),frz k sl t=some q→Inv prog w F env sl ρ s→Has prog w (Vw F sl ρ s.heap) ρ t v →
  Frozen prog w F env ρ s sl q.1∧Has prog w (Vw F q.1 ρ s.heap) ρ q.2 v
 | 0,_,_,_,_,h,_,_=>nomatch h
 | k+1,sl,t,q,v,h,I,hv=>by
  refine VM h (fun n en h=>AS h fun σ e h=>?_) fun h=>VM h (fun l el h=>MA h (fun _ h=>?_) fun h=>AS h fun r er h=>?_) fun h=>MA h (fun _ h=>?_) A0
  ·rw [aeT en] at hv
   refine ob13 (I.slot hv e) fun a e1 hr hs=>?_
   cases σ with
   | frz t=>rw [← Option.some.inj h,e1]; exact ⟨.refl I,hs⟩
   | own c=>
    refine AS h fun p ep h=>AS h fun r er h=>MA h (fun ho h=>?_) A0
    refine afA ep hs fun o us h3 h4 K=>ob02 (ME k sl p.2 r us er I h4) fun f1 f2=>ob11 (SS ho) fun c hc=>?_
    have hh:=K _ _ (SR (t:=p.1 r.2) f1.1 hc hr h3) (HasL.mono prog w V4 (fun _ _ e=>e) _ _ f2)
    rw [← Option.some.inj h,e1]
    exact ⟨f1.trans (f1.1.freeze hr hh (List.getElem?_eq_some_iff.mp hc).1),hh⟩
  ·rw [← Option.some.inj h]; exact ⟨.refl I,hv⟩
  ·rw [HY el] at hv
   rw [← Option.some.inj h]
   exact ob33 hv fun a us m e h3 h4=>ob02 (ME k sl l r us er I h4) fun f1 f2=>⟨f1,a,us,m,e,f1.2.vis _ _ h3,f2⟩
  ·rw [← Option.some.inj h]; exact ⟨.refl I,hv⟩
theorem ME:∀ (k:Nat) (sl:SL) (l:List AV) (q:SL×List AV) (vs:List Value),frzL k sl l=some q→Inv prog w F env sl ρ s→HasL prog w (Vw F sl ρ s.heap) ρ l vs →
  Frozen prog w F env ρ s sl q.1∧HasL prog w (Vw F q.1 ρ s.heap) ρ q.2 vs
 | 0,_,_,_,_,h,_,_=>nomatch h
 | k+1,sl,[],q,vs,h,I,hv=>by
  rw [← Option.some.inj (show some (sl,[])=some q from h)]
  exact ⟨.refl I,hv⟩
 | k+1,sl,x :: l,q,vs,h,I,hv=>by
  refine AS (show ((frz k sl x).bind fun p=>(frzL k p.1 l).bind fun q=>some (q.1,p.2 :: q.2))=some q from h) fun p ep h=>AS h fun r er h=>ob23 hv fun v us e h1 h2=>?_
  rw [← Option.some.inj h]
  exact ob02 (acJ k sl x p v ep I h1) fun f1 g1=>ob02 (ME k p.1 l r us er f1.1 (f1.2.hasL h2)) fun f2 g2=>⟨f1.trans f2,v,us,e,f2.2.has g1,g2⟩
end
end
end Mine
end
section
open PySem.SeqAt
namespace Mine
section
variable {prog:Program} {w:World} {EO:Value→Shared→Prop} {F:Frm} {env:AEnv} {sl:SL} {ρ:List Addr} {s:Shared} {A:Around} {d:Nat}
noncomputable def Frm.hide (F:Frm) (d:Addr):Frm:={ F with X:=fun a=>F.X a∨a=d,frX:=fun a h=>.inl (F.frX a h) }
theorem aqI {d a:Addr}:Mut (F.hide d) sl ρ a↔Mut F sl ρ a:=Iff.rfl
theorem bad_hide {d a:Addr}:Bad (F.hide d) sl ρ a↔Bad F sl ρ a∨a=d:=by
 unfold Bad
 show (F.X a∨a=d)∨Mut F sl ρ a↔(F.X a∨Mut F sl ρ a)∨a=d
 constructor
 ·rintro ((h | h) | h)
  ·exact .inl (.inl h)
  ·exact .inr h
  ·exact .inl (.inr h)
 ·rintro ((h | h) | h)
  ·exact .inl (.inl h)
  ·exact .inr h
  ·exact .inl (.inr h)
theorem Inv.hide (I:Inv prog w F env sl ρ s) {s':Shared} {d:Addr} (keep:∀ a o,s.heap.get? a=some o→s'.heap.get? a=some o) (hd:s.heap.get? d=none) (hd':∃ o,s'.heap.get? d=some o) :
  Inv prog w (F.hide d) env sl ρ s':=by
 have hv:∀ b o,Vw F sl ρ s.heap b o→Vw (F.hide d) sl ρ s'.heap b o:=fun b o h=>by
  have hb:b≠d:=fun e=>by
   have h1:=h.1
   rw [e,hd] at h1; exact nomatch h1
  exact ⟨keep b o h.1,fun q=>(bad_hide.mp q).elim h.2.1 hb,h.2.2⟩
 have hbase:F.base.get? d=none:=by
  cases e:F.base.get? d with
  | none=>rfl
  | some o=>rw [I.base d o e] at hd; exact nomatch hd
 have live:∀ a,Bad F sl ρ a→a≠d:=fun a h e=>by
  refine ob11 ((I.low a h).2) fun o ho=>?_
  subst e; rw [hd] at ho; exact nomatch ho
 refine ⟨fun a o e=>keep a o (I.base a o e),I.sm,fun a h=>?_,?_,?_,I.kind,?_,I.len,?_,I.apart,?_,?_,fun a h=>ob12 (I.frs a h) fun o e q=>⟨o,keep a o e,q⟩⟩
 ·rcases bad_hide.mp h with h | e
  ·exact ⟨(I.low a h).1,ob11 ((I.low a h).2) fun o e=>⟨o,keep a o e⟩⟩
  ·subst e; exact ⟨hbase,hd'⟩
 ·refine ob12 I.ns fun m h1 h2=>?_
  exact ⟨m,h1.keeps keep,fun x av e k=>ob12 (h2 x av e k) fun v e1 e2=>⟨v,e1,Has.mono prog w hv (fun _ _ e=>e) av v e2⟩⟩
 ·intro x av e k
  refine ob23 (I.cell x av e k) fun q v e1 e2 e3=>?_
  exact ⟨q,v,e1,e2.keeps keep,Has.mono prog w hv (fun _ _ e=>e) av v e3⟩
 ·intro x c e
  (refine ob02 (I.cells x c e) fun ζ1 h2=>?_; refine ob11 ζ1 ?_; clear ζ1; intro ov h1)
  exact ⟨⟨ov,h1.keeps keep⟩,h2⟩
 ·intro n a σ e1 e2
  exact (I.slots n a σ e1 e2).calm hv (fun _ _ e=>e) (keep a)
 ·intro a h
  refine ob03 (I.ownNe a h) fun h1 h2 h3=>?_
  exact ⟨h1,h2,fun q=>q.elim h3 (live a (.inr (.inr (.inr h))))⟩
 ·exact ⟨fun q=>q.elim I.locX.1 (live _ (.inr (.inl rfl))),fun x c e q=>q.elim (I.locX.2 x c e) (live c (.inr (.inr (.inl ⟨x,e⟩))))⟩
theorem Inv.show {d:Addr} (I:Inv prog w (F.hide d) env sl ρ s) {s':Shared} (keep:∀ a o,a≠d→s.heap.get? a=some o→s'.heap.get? a=some o) (hd:∃ o,s'.heap.get? d=some o) (hf:¬ F.fr d) :
  Inv prog w F env sl ρ s':=by
 have hbd:Bad (F.hide d) sl ρ d:=bad_hide.mpr (.inr rfl)
 have hv:∀ b o,Vw (F.hide d) sl ρ s.heap b o→Vw F sl ρ s'.heap b o:=fun b o h=>
  ⟨keep b o (fun e=>h.2.1 (bad_hide.mpr (.inr e))) h.1,fun q=>h.2.1 (bad_hide.mpr (.inl q)),h.2.2⟩
 have ned:∀ a,Mut F sl ρ a→a≠d:=fun a h e=>by
  subst e
  rcases h with h | ⟨x,h⟩ | h
  ·exact I.locX.1 (.inr h.symm)
  ·exact I.locX.2 x _ h (.inr rfl)
  ·exact (I.ownNe _ h).2.2 (.inr rfl)
 refine ⟨fun a o e=>keep a o (fun q=>by subst q; have e':F.base.get? a=none:=(I.low a hbd).1; rw [e'] at e; exact nomatch e) (I.base a o e),I.sm,fun a h=>?_,?_,?_,I.kind,?_,I.len,?_,I.apart,fun a h=>?_,⟨fun q=>I.locX.1 (.inl q),fun x c e q=>I.locX.2 x c e (.inl q)⟩,fun a h=>ob12 (I.frs a h) fun o e q=>⟨o,keep a o (fun z=>hf (z ▸ h)) e,q⟩⟩
 ·refine ⟨(I.low a (bad_hide.mpr (.inl h))).1,?_⟩
  refine ob11 ((I.low a (bad_hide.mpr (.inl h))).2) fun o e=>?_
  by_cases q:a=d
  ·subst q; exact hd
  ·exact ⟨o,keep a o q e⟩
 ·refine ob12 I.ns fun m h1 h2=>?_
  exact ⟨m,h1.at fun o e=>keep _ o (ned _ (.inl rfl)) e,fun x av e k=>ob12 (h2 x av e k) fun v e1 e2=>⟨v,e1,Has.mono prog w hv (fun _ _ e=>e) av v e2⟩⟩
 ·intro x av e k
  (refine ob23 (I.cell x av e k) fun q v e1 ζ1 e4=>?_; refine ob12 ζ1 ?_; clear ζ1; intro o e2 e3)
  exact ⟨q,v,e1,⟨o,keep q o (ned q (.inr (.inl ⟨x,AF e1⟩))) e2,e3⟩,Has.mono prog w hv (fun _ _ e=>e) av v e4⟩
 ·intro x c e
  (refine ob02 (I.cells x c e) fun ζ1 h3=>?_; refine ob22 ζ1 ?_; clear ζ1; intro ov o h1 h2)
  exact ⟨⟨ov,o,keep c o (ned c (.inr (.inl ⟨x,e⟩))) h1,h2⟩,h3⟩
 ·intro n a σ e1 e2
  refine (I.slots n a σ e1 e2).calm' hv fun c hc o ho=>keep a o (ned a ?_) ho
  subst hc
  exact .inr (.inr ⟨n,c,e2,e1⟩)
 ·refine ob03 (I.ownNe a h) fun h1 h2 h3=>?_
  exact ⟨h1,h2,fun q=>h3 (.inl q)⟩
theorem Inv.drop {d:Addr} (I:Inv prog w (F.hide d) env sl ρ s) {s':Shared} (keep:∀ a o,a≠d→s.heap.get? a=some o→s'.heap.get? a=some o) (hX:¬ F.X d) :
  Inv prog w F env sl ρ s':=by
 have hbd:Bad (F.hide d) sl ρ d:=bad_hide.mpr (.inr rfl)
 have hv:∀ b o,Vw (F.hide d) sl ρ s.heap b o→Vw F sl ρ s'.heap b o:=fun b o h=>
  ⟨keep b o (fun e=>h.2.1 (bad_hide.mpr (.inr e))) h.1,fun q=>h.2.1 (bad_hide.mpr (.inl q)),h.2.2⟩
 have ned:∀ a,Mut F sl ρ a→a≠d:=fun a h e=>by
  subst e
  rcases h with h | ⟨x,h⟩ | h
  ·exact I.locX.1 (.inr h.symm)
  ·exact I.locX.2 x _ h (.inr rfl)
  ·exact (I.ownNe _ h).2.2 (.inr rfl)
 refine ⟨fun a o e=>keep a o (fun q=>by subst q; have e':F.base.get? a=none:=(I.low a hbd).1; rw [e'] at e; exact nomatch e) (I.base a o e),I.sm,fun a h=>?_,?_,?_,I.kind,?_,I.len,?_,I.apart,fun a h=>?_,⟨fun q=>I.locX.1 (.inl q),fun x c e q=>I.locX.2 x c e (.inl q)⟩,fun a h=>ob12 (I.frs a h) fun o e q=>⟨o,keep a o (fun z=>hX (z ▸ F.frX a h)) e,q⟩⟩
 ·refine ⟨(I.low a (bad_hide.mpr (.inl h))).1,?_⟩
  refine ob11 ((I.low a (bad_hide.mpr (.inl h))).2) fun o e=>?_
  exact ⟨o,keep a o (fun q=>h.elim (fun z=>hX (q ▸ z)) fun z=>ned a z q) e⟩
 ·refine ob12 I.ns fun m h1 h2=>?_
  exact ⟨m,h1.at fun o e=>keep _ o (ned _ (.inl rfl)) e,fun x av e k=>ob12 (h2 x av e k) fun v e1 e2=>⟨v,e1,Has.mono prog w hv (fun _ _ e=>e) av v e2⟩⟩
 ·intro x av e k
  (refine ob23 (I.cell x av e k) fun q v e1 ζ1 e4=>?_; refine ob12 ζ1 ?_; clear ζ1; intro o e2 e3)
  exact ⟨q,v,e1,⟨o,keep q o (ned q (.inr (.inl ⟨x,AF e1⟩))) e2,e3⟩,Has.mono prog w hv (fun _ _ e=>e) av v e4⟩
 ·intro x c e
  (refine ob02 (I.cells x c e) fun ζ1 h3=>?_; refine ob22 ζ1 ?_; clear ζ1; intro ov o h1 h2)
  exact ⟨⟨ov,o,keep c o (ned c (.inr (.inl ⟨x,e⟩))) h1,h2⟩,h3⟩
 ·intro n a σ e1 e2
  refine (I.slots n a σ e1 e2).calm' hv fun c hc o ho=>keep a o (ned a ?_) ho
  subst hc
  exact .inr (.inr ⟨n,c,e2,e1⟩)
 ·refine ob03 (I.ownNe a h) fun h1 h2 h3=>?_
  exact ⟨h1,h2,fun q=>h3 (.inl q)⟩
end
end Mine
end
section
open PySem.SeqAt
namespace Mine
section
variable {prog:Program} {w:World} {EO:Value→Shared→Prop} {F:Frm} {env:AEnv} {sl:SL} {ρ:List Addr} {s:Shared} {A:Around} {d:Nat}
def HD (fr:Addr→Prop) (A:Around):Prop:=∃ l,A.frames=some l∧∀ e∈l,e.scope.kind≠.module∧∃ L,e.frame=some L∧fr L
structure Grow (s s':Shared):Prop where
 keep:∀ a o,s.heap.get? a=some o→s'.heap.get? a=some o
 gens:s'.gens=s.gens
 drawn:s'.drawn=s.drawn
 os:s'.os=s.os
theorem Grow.calm {s':Shared} (x:Grow s s'):Calm F sl ρ s s':=⟨x.keep,x.gens,x.drawn,x.os⟩
structure GrowF (fr:Addr→Prop) (s s':Shared):Prop where
 keep:∀ a o,s.heap.get? a=some o→Kept fr s'.heap a o
 gens:s'.gens=s.gens
 drawn:s'.drawn=s.drawn
 os:s'.os=s.os
def VX (X:Addr→Prop) (h:Heap):Vis:=fun a o=>h.get? a=some o∧¬ X a∧(a==sysModules)=false
def PureFn (prog:Program) (w:World) (G:Heap) (a:Addr) (fn:Fn):Prop:=
 ∀ (X fr:Addr→Prop) (s:Shared) (A:Around) (vs:List Value) (avs:List AV) (P:AV→Prop) (Q E:Value→Shared→Prop),
  (∀ b o,G.get? b=some o→s.heap.get? b=some o)→(∀ b,X b→G.get? b=none∧∃ o,s.heap.get? b=some o)→(∀ b,fr b→X b)→(∀ b,fr b→∃ o,s.heap.get? b=some o∧∀ vs,o.data≠.fields vs)→HD fr A→Room A (fn.height+1)→HasL prog w (VX X s.heap) [] avs vs →
  (fn.spec avs).Holds P False→(∀ v s' av,GrowF fr s s'→Has prog w (VX X s'.heap) [] av v→P av→Q v s')→wpAny (model prog w) A (call (.ref a) vs) Q E s
def WellFn (prog:Program) (w:World) (G:Heap) (a:Addr) (wf:WFn):Prop:=
 ∀ (X fr:Addr→Prop) (s:Shared) (A:Around) (wa:Addr) (ws:List Value) (m:Nat) (items:List AV) (vs:List Value) (avs:List AV) (P:List AV×AV→Prop) (Q E:Value→Shared→Prop),
  (∀ b o,G.get? b=some o→s.heap.get? b=some o)→(∀ b,X b→G.get? b=none∧∃ o,s.heap.get? b=some o)→(∀ b,fr b→X b)→(∀ b,fr b→∃ o,s.heap.get? b=some o∧∀ vs,o.data≠.fields vs)→HD fr A→Room A (wf.height+1) →
  X wa→¬ fr wa→s.heap.get? wa=some (lstO ws m)→HasL prog w (VX X s.heap) [] items ws→HasL prog w (VX X s.heap) [] avs vs →
  (wf.spec items avs).Holds P False →
  (∀ v s' l' ws' m' av,(∀ b o,b≠wa→s.heap.get? b=some o→Kept fr s'.heap b o)→s'.gens=s.gens→s'.drawn=s.drawn→s'.os=s.os→s'.heap.get? wa=some (lstO ws' m')→HasL prog w (VX X s'.heap) [] l' ws'→Has prog w (VX X s'.heap) [] av v→P (l',av)→Q v s') →
  wpAny (model prog w) A (call (.ref a) (.ref wa :: vs)) Q E s
structure GOK (prog:Program) (w:World) (C:Ctx) (G:Heap):Prop where
 names:∃ mg mb,G.Ns mainGlobals mg∧G.Ns builtinsNs mb ∧
  (∀ x v,C.glob.lookup x=some v→∃ val,mg x=some val∧Has prog w (VX (fun _=>False) G) [] v val) ∧
  (∀ f k,bkOf f=some k→mg f=none∧mb f=some k.val) ∧
  (∀ f fn,C.funs.lookup f=some fn→∃ a o fd,mg f=some (.ref a)∧G.get? a=some o∧o.data=.func fd∧PureFn prog w G a fn∧∀ l,NoExc (fn.spec l)) ∧
  (∀ f wf,C.wfuns.lookup f=some wf→∃ a o fd,mg f=some (.ref a)∧G.get? a=some o∧o.data=.func fd∧WellFn prog w G a wf∧∀ x l,NoExc (wf.spec x l))
mutual
theorem FU {V:Vis} {ρ ρ':List Addr}:∀ (t:AV) (v:Value),G7 t=true→Has prog w V ρ t v→Has prog w V ρ' t v
 | .none=>fun _ _ h=>h
 | .bool _=>fun _ _ h=>h
 | .sb _=>fun _ _ h=>h
 | .num _=>fun _ _ h=>h
 | .sym _=>fun _ _ h=>h
 | .str _=>fun _ _ h=>h
 | .ints _=>fun _ _ h=>h
 | .tup l=>fun _ hp h=>ob33 h fun a vs n e hv h=>⟨a,vs,n,e,hv,CW l vs hp h⟩
 | .lst l=>fun _ hp h=>ob33 h fun a vs n e hv h=>⟨a,vs,n,e,hv,CW l vs hp h⟩
 | .dS _ l=>fun _ hp h=>ob35 h fun a o vs e hv hd hl h=>⟨a,o,vs,e,hv,hd,hl,CW l vs hp h⟩
 | .dI _ l=>fun _ hp h=>ob35 h fun a o vs e hv hd hl h=>⟨a,o,vs,e,hv,hd,hl,CW l vs hp h⟩
 | .rng _ _ _=>fun _ _ h=>h
 | .ite _ x y=>fun v hp h=>⟨fun e=>FU x v (Bool.and_eq_true_iff.mp hp).1 (h.1 e),fun e=>FU y v (Bool.and_eq_true_iff.mp hp).2 (h.2 e)⟩
 | .loc _=>fun _ hp _=>Bool.noConfusion hp
theorem CW {V:Vis} {ρ ρ':List Addr}:∀ (l:List AV) (vs:List Value),D6 l=true→HasL prog w V ρ l vs→HasL prog w V ρ' l vs
 | []=>fun _ _ h=>h
 | x :: l=>fun _ hp h=>ob23 h fun v r e h1 h2=>⟨v,r,e,FU x v (Bool.and_eq_true_iff.mp hp).1 h1,CW l r (Bool.and_eq_true_iff.mp hp).2 h2⟩
end
theorem V5 {V:Vis} {ρ:List Addr} {t:AV} {v:Value} (h:Has prog w V [] t v):Has prog w V ρ t v:=Has.mono prog w (fun _ _ e=>e) (fun n a e=>by simp at e) t v h
theorem Z3 {V:Vis} {ρ:List Addr} {t:List AV} {v:List Value} (h:HasL prog w V [] t v):HasL prog w V ρ t v:=HasL.mono prog w (fun _ _ e=>e) (fun n a e=>by simp at e) t v h
structure FOK (F:Frm) (C:Ctx) (prog:Program) (w:World) (A:Around):Prop where
 frm:FrmOK F A
 glob:GOK prog w C F.base
theorem Z4 (I:Inv prog w F env sl ρ s) {t:AV} {v:Value} (h:Has prog w (VX (fun _=>False) F.base) [] t v):Has prog w (Vw F sl ρ s.heap) ρ t v:=
 Has.mono prog w (fun a o h=>⟨I.base a o h.1,fun q=>(by
  have e:=(I.low a q).1
  have h1:=h.1
  rw [e] at h1; exact nomatch h1),h.2.2⟩) (fun n a e=>by simp at e) t v h
theorem afB (I:Inv prog w F env sl ρ s) {t:AV} {v:Value} (h:Has prog w (Vw F sl ρ s.heap) ρ t v):Has prog w (Vw F sl ρ s.heap) ρ (res sl t) v:=by
 unfold res
 split
 ·split
  ·rename_i e
   refine ob13 (I.slot h e) fun a e1 hr hs=>?_
   subst e1
   exact hs
  ·exact h
 ·exact h
theorem afC (hF:FOK F C prog w A) (I:Inv prog w F env sl ρ s) {x:Str} {pos:Pos} {P:Option SL×AV→Prop} {X:Prop} {Q E:Value→Shared→Prop}
  (h:(match x==("__debug__" : Str)||x==("__classdict__" : Str) with
  | true=>.fail
  | false=>match env.lookup x with
   | some v=>.ret (none,res sl v)
   | none=>match F.env.scope.names.lookup x with
    | some .globalImplicit=>(match C.glob.lookup x with
     | some v=>.ret (none,v)
     | none=>.fail)
    | _=>.fail:RE).Holds P X) (hQ:∀ v s',QE prog w F env sl ρ s P v s'→Q v s'):wpAny (model prog w) A (eval (.Name x pos) F.env) Q E s:=by
 split at h
 ·exact h.elim
 ·rename_i hx
  simp only [Bool.or_eq_false_iff] at hx
  split at h
  ·rename_i av e
   refine wpAny_Name ?_ hx.1
   have fin:∀ v,Has prog w (Vw F sl ρ s.heap) ρ av v→Q v s:=fun v hv=>hQ _ _ (A9 I (.tok s.toks) (afB I hv) h)
   rcases I.kind x av e with k | k | k
   ·refine ob12 I.ns fun m h1 h2=>?_
    refine ob12 (h2 x av e k) fun v e1 e2=>?_
    exact wpAny_loadName_local hF.frm.kind k h1 e1 (fin v e2)
   ·refine ob23 (I.cell x av e (.inl k)) fun c v e1 e2 e3=>?_
    exact wpAny_loadName_cell hF.frm.kind k e1 e2 (fin v e3)
   ·refine ob23 (I.cell x av e (.inr k)) fun c v e1 e2 e3=>?_
    exact wpAny_loadName_free hF.frm.kind k e1 e2 (fin v e3) hx.2
  ·split at h
   ·rename_i hk
    split at h
    ·rename_i av e
     refine ob24 hF.glob.names fun mg mb n1 n2 n3 _=>?_
     refine ob12 (n3 x av e) fun val e1 e2=>?_
     refine Name_function_global hF.frm.kind hk (loadGlobal_global (mg:=mg) ?_ e1 (hQ _ _ (A9 I (.tok s.toks) (Z4 I e2) h))) hx.1
     rw [hF.frm.glob]
     exact n1.keeps I.base
    ·exact h.elim
   ·exact h.elim
theorem afD {ev:Expr→SL→RE} (hev:Ok prog w EO F env A ev) (I:Inv prog w F env sl ρ s) {elts:List Expr} {pos:Pos} :
  Tri prog w EO F env sl ρ s A (seqLE (evL ev elts sl) sl fun l _=>AO (Nat.blt l.length 16777216) (.ret (none,.lst l))) (eval (.List elts pos) F.env):=fun P X Q E h hQ hE=>by
 rw [arm_eval_List]
 refine wpAny_bind (wpAny_standAt (wpAny_bind (TriL.seqLE (u:=fun vs=>newList vs) (GH hev pos elts sl ρ s I) (fun vs l sl₁ ρ₁ s₁ I₁ hl ev₁=>?_) h hQ hE)))
 intro P X Q E h hQ hE
 refine ob02 (AA h) fun hz h=>?_
 have hb:=BR hz
 have hn:=hl.length
 exact wpAny_newList (hQ _ _ (A9 I₁ (.push _ _) (av:=.lst l) ⟨_,vs,0,rfl,C2 I₁ (AJ _) (Heap.get?_push_size _ rfl),(Calm.push (F:=F) (sl:=sl₁) (ρ:=ρ₁) _ _).evo.hasL hl⟩ h)) (BM (by omega))
theorem Z5 {ev:Expr→SL→RE} (hev:Ok prog w EO F env A ev) (I:Inv prog w F env sl ρ s) {elts:List Expr} {k:Nat} {pos:Pos} :
  Tri prog w EO F env sl ρ s A (seqLE (evL ev elts sl) sl fun l _=>AO (Nat.blt l.length 16777216) (.ret (none,.tup l))) (eval (.Tuple elts k pos) F.env):=fun P X Q E h hQ hE=>by
 rw [arm_eval_Tuple]
 refine wpAny_bind (wpAny_standAt (wpAny_bind (TriL.seqLE (u:=fun vs=>newTuple vs) (GH hev pos elts sl ρ s I) (fun vs l sl₁ ρ₁ s₁ I₁ hl ev₁=>?_) h hQ hE)))
 intro P X Q E h hQ hE
 refine ob02 (AA h) fun hz h=>?_
 have hb:=BR hz
 have hn:=hl.length
 exact wpAny_newTuple (hQ _ _ (A9 I₁ (.push _ _) (av:=.tup l) ⟨_,vs,0,rfl,C2 I₁ (AJ _) (Heap.get?_push_size _ rfl),(Calm.push (F:=F) (sl:=sl₁) (ρ:=ρ₁) _ _).evo.hasL hl⟩ h)) (BM (by omega))
def Around1 (F:Frm):Addr→Prop:=fun a=>F.fr a∨a=F.env.locals
theorem Around1.bad (b:Addr) (h:Around1 F b):Bad F sl ρ b:=h.elim (fun h=>.inl (F.frX b h)) fun h=>.inr (.inl h)
theorem Inv.around1 (I:Inv prog w F env sl ρ s) (b:Addr) (h:Around1 F b):∃ o,s.heap.get? b=some o∧∀ vs,o.data≠.fields vs:=by
 rcases h with h | h
 ·exact I.frs b h
 ·subst h
  (refine ob12 I.ns fun m ζ1 _=>?_; refine ob33 ζ1 ?_; clear ζ1; intro o es ep e d _)
  exact ⟨o,e,fun vs q=>by rw [d] at q; exact nomatch q⟩
theorem Inv.own_around1 (I:Inv prog w F env sl ρ s) {a:Addr} (h:OwnA sl ρ a):¬ Around1 F a:=by
 refine ob03 (I.ownNe a h) fun h1 h2 h3=>?_
 exact fun q=>q.elim (fun q=>h3 (F.frX a q)) h1
theorem Inv.cell_around1 (I:Inv prog w F env sl ρ s) {x:Str} {c:Addr} (h:(x,c)∈F.env.cells):¬ Around1 F c:=
 fun q=>q.elim (fun q=>I.locX.2 x c h (F.frX c q)) (I.cells x c h).2
theorem Inv.base_around1 (I:Inv prog w F env sl ρ s) {a:Addr} {o:Obj} (h:F.base.get? a=some o):¬ Around1 F a:=fun q=>by
 rw [(I.low a (Around1.bad a q)).1] at h; exact nomatch h
theorem Inv.x_not_mut (I:Inv prog w F env sl ρ s) {a:Addr} (h:F.X a):¬ Mut F sl ρ a:=fun q=>by
 rcases q with q | ⟨x,q⟩ | q
 ·exact I.locX.1 (q ▸ h)
 ·exact I.locX.2 x a q h
 ·exact (I.ownNe a q).2.2 h
theorem Inv.new_around1 (I:Inv prog w F env sl ρ s) {a:Addr} (h:s.heap.get? a=none):¬ Around1 F a:=fun q=>by
 refine ob12 (I.around1 a q) fun o e _=>?_
 rw [h] at e; exact nomatch e
theorem Inv.called (I:Inv prog w F env sl ρ s) {s':Shared} (keep:∀ a o,s.heap.get? a=some o→Kept (Around1 F) s'.heap a o) (hg:s'.gens=s.gens) (hd:s'.drawn=s.drawn) (ho:s'.os=s.os) :
  Inv prog w F env sl ρ s'∧Evo F sl ρ s sl ρ s':=by
 have hv:∀ b o,Vw F sl ρ s.heap b o→Vw F sl ρ s'.heap b o:=fun b o h=>⟨(keep b o h.1).exact fun q=>h.2.1 (Around1.bad b q),h.2⟩
 refine ⟨⟨fun a o e=>(keep a o (I.base a o e)).exact (I.base_around1 e),I.sm,fun a h=>⟨(I.low a h).1,?_⟩,?_,fun x av e k=>?_,I.kind,fun x c e=>⟨?_,(I.cells x c e).2⟩,I.len,fun n a σ e1 e2=>?_,I.apart,I.ownNe,I.locX,fun a h=>?_⟩,
  ⟨fun a o e h=>(keep a o e).sub fun q=>q.resolve_right fun q=>h (.inl q),hg,hd,ho,fun _ _ e=>e,fun a h=>.inl h,fun a o e=>ob12 ((keep a o e).some) fun o' e' _=>⟨o',e'⟩⟩⟩
 ·refine ob11 ((I.low a h).2) fun o e=>?_
  refine ob12 ((keep a o e).some) fun o' e' _=>?_
  exact ⟨o',e'⟩
 ·refine ob12 I.ns fun m h1 h2=>?_
  exact ⟨m,PE h1 (keep _),fun x av e k=>ob12 (h2 x av e k) fun v e1 e2=>⟨v,e1,Has.mono prog w hv (fun _ _ e=>e) av v e2⟩⟩
 ·(refine ob23 (I.cell x av e k) fun c v e1 ζ1 e4=>?_; refine ob12 ζ1 ?_; clear ζ1; intro o e2 e3)
  exact ⟨c,v,e1,⟨o,(keep c o e2).exact (I.cell_around1 (AF e1)),e3⟩,Has.mono prog w hv (fun _ _ e=>e) av v e4⟩
 ·(refine ob02 (I.cells x c e) fun ζ1 _=>?_; refine ob22 ζ1 ?_; clear ζ1; intro ov o h1 h2)
  exact ⟨ov,o,(keep c o h1).exact (I.cell_around1 e),h2⟩
 ·refine (I.slots n a σ e1 e2).calm' hv fun c hc o ho=>(keep a o ho).exact ?_
  subst hc
  exact I.own_around1 ⟨n,c,e2,e1⟩
 ·refine ob12 (I.frs a h) fun o e d=>?_
  refine ob12 ((keep a o e).some) fun o' e' d'=>?_
  exact ⟨o',e',fun vs=>d' ▸ d vs⟩
theorem Inv.storeF (I:Inv prog w F env sl ρ s) {n:Nat} {a:Addr} {c c':AV} (hn:sl[n]?=some (Slot.own c)) (ha:ρ[n]?=some a) {s':Shared} (keep:∀ b o,b≠a→s.heap.get? b=some o→Kept (Around1 F) s'.heap b o)
  (hg:s'.gens=s.gens) (hd:s'.drawn=s.drawn) (ho:s'.os=s.os) (hc:OwnAt prog w (Vw F sl ρ s'.heap) ρ s'.heap a c') :
  Inv prog w F env (sl.set n (Slot.own c')) ρ s'∧Evo F sl ρ s (sl.set n (Slot.own c')) ρ s':=by
 have own:OwnA sl ρ a:=⟨n,c,hn,ha⟩
 have hbad:Bad F sl ρ a:=.inr (.inr (.inr own))
 have hv:∀ b o,Vw F sl ρ s.heap b o→Vw F sl ρ s'.heap b o:=fun b o h=>⟨(keep b o (fun e=>h.2.1 (e ▸ hbad)) h.1).exact fun q=>h.2.1 (Around1.bad b q),h.2⟩
 have hlt:=(List.getElem?_eq_some_iff.mp hn).1
 have apa:=I.ownNe a own
 refine ⟨⟨?_,I.sm,?_,?_,?_,I.kind,?_,?_,?_,?_,?_,I.locX,?_⟩,⟨?_,hg,hd,ho,fun _ _ e=>e,fun b h=>.inl ((PN hn b).mp h),fun b o e=>by
  by_cases q:b=a
  ·subst q; exact hc.live
  ·refine ob12 ((keep b o q e).some) fun o' e' _=>?_; exact ⟨o',e'⟩⟩⟩
 ·intro b o e
  refine (keep b o (fun q=>?_) (I.base b o e)).exact (I.base_around1 e)
  subst q
  rw [(I.low b hbad).1] at e; exact nomatch e
 ·intro b h
  have h:=(PO hn b).mp h
  refine ⟨(I.low b h).1,?_⟩
  by_cases e:b=a
  ·subst e; exact hc.live
  ·refine ob11 ((I.low b h).2) fun o e'=>?_
   refine ob12 ((keep b o e e').some) fun o' e'' _=>?_
   exact ⟨o',e''⟩
 ·rw [I6 hn]
  refine ob12 I.ns fun m h1 h2=>?_
  refine ⟨m,PE h1 fun o e=>keep _ o (Ne.symm apa.1) e,fun x av e k=>?_⟩
  refine ob12 (h2 x av e k) fun v e1 e2=>?_
  exact ⟨v,e1,Has.mono prog w hv (fun _ _ e=>e) av v e2⟩
 ·rw [I6 hn]
  intro x av e k
  (refine ob23 (I.cell x av e k) fun q v e1 ζ1 e4=>?_; refine ob12 ζ1 ?_; clear ζ1; intro o e2 e3)
  refine ⟨q,v,e1,⟨o,(keep q o (fun e=>?_) e2).exact (I.cell_around1 (AF e1)),e3⟩,Has.mono prog w hv (fun _ _ e=>e) av v e4⟩
  subst e
  exact apa.2.1 x (AF e1)
 ·intro x q e
  (refine ob02 (I.cells x q e) fun ζ1 h3=>?_; refine ob22 ζ1 ?_; clear ζ1; intro ov o h1 h2)
  exact ⟨⟨ov,o,(keep q o (fun z=>by subst z; exact apa.2.1 x e) h1).exact (I.cell_around1 e),h2⟩,h3⟩
 ·rw [List.length_set]; exact I.len
 ·rw [I6 hn]
  intro m b σ e1 e2
  by_cases e:n=m
  ·subst e
   rw [List.getElem?_set_self hlt] at e2
   injection e2 with e2
   subst e2
   rw [ha] at e1
   injection e1 with e1
   subst e1
   exact hc
  ·rw [List.getElem?_set_ne e] at e2
   refine (I.slots m b σ e1 e2).calm' hv fun d hd o ho=>(keep b o (fun z=>?_) ho).exact ?_
   ·subst z hd
    exact e (I.apart n m b c d hn e2 ha e1)
   ·subst hd
    exact I.own_around1 ⟨m,d,e2,e1⟩
 ·intro p q b d d' h1 h2 h3 h4
  have f:∀ p d,(sl.set n (Slot.own c'))[p]?=some (Slot.own d)→∃ e,sl[p]?=some (Slot.own e):=fun p d h=>by
   by_cases e:n=p
   ·subst e; exact ⟨c,hn⟩
   ·rw [List.getElem?_set_ne e] at h; exact ⟨d,h⟩
  refine ob11 (f p d h1) fun _ k1=>?_
  refine ob11 (f q d' h2) fun _ k2=>?_
  exact I.apart p q b _ _ k1 k2 h3 h4
 ·intro b h
  exact I.ownNe b ((PM hn b).mp h)
 ·intro b h
  refine ob12 (I.frs b h) fun o e d=>?_
  refine ob12 ((keep b o (fun q=>apa.2.2 (q ▸ F.frX b h)) e).some) fun o' e' d'=>?_
  exact ⟨o',e',fun vs=>d' ▸ d vs⟩
 ·intro b o e hm
  exact (keep b o (fun q=>by subst q; exact hm (.inr (.inr own))) e).sub fun q=>q.resolve_right fun q=>hm (.inl q)
end
end Mine
end
section
open PySem.SeqAt
namespace Mine
section
variable {prog:Program} {w:World} {EO:Value→Shared→Prop} {F:Frm} {env:AEnv} {sl:SL} {ρ:List Addr} {s:Shared} {A:Around} {d:Nat}
theorem afE {c:Const} {x:Str} (h:strK c=some x):c=.str x:=by
 cases c<;>first | exact A0 h | exact congrArg Const.str (Option.some.inj h)
theorem afF {e:Expr} {x:Str} (h:strC e=some x):∃ k p,e=.Constant (.str x) k p:=by
 cases e<;>first | exact A0 h | exact ⟨_,_,by rw [afE h]⟩
theorem LD {e:Option Expr} {r:List (Option Expr)} {ks:List Str} (h:LZ (e :: r)=some ks):∃ x k p m,e=some (.Constant (.str x) k p)∧LZ r=some m∧ks=x :: m:=
 AS h fun x ex h=>AS ex fun y ey ex=>AS h fun m hm h=>ob21 (afF ex) fun k p ec=>⟨x,k,p,m,by rw [ey,ec],hm,(Option.some.inj h).symm⟩
theorem GZ:∀ {keys:List (Option Expr)} {ks:List Str},LZ keys=some ks→keys.all (·.isSome)=true∧ks.length=keys.length
 | [],ks,h=>by
  rw [← Option.some.inj (show some []=some ks from h)]; exact ⟨rfl,rfl⟩
 | e :: r,ks,h=>ob43 (LD h) fun x k p m ee hm ek=>ob02 (GZ hm) fun h1 h2=>⟨by rw [List.all_cons,h1,ee]; rfl,by rw [ek]; exact congrArg (·+1) h2⟩
theorem FE {ev:Expr→SL→RE} (hev:Ok prog w EO F env A ev) (pos:Pos):∀ (keys:List (Option Expr)) (values:List Expr) (ks:List Str) (sl:SL) (ρ:List Addr) (s:Shared),LZ keys=some ks→keys.length=values.length→Inv prog w F env sl ρ s →
  ∀ (P:Option SL×List AV→Prop) (X:Prop) (Q:List (Value×Value)→Shared→Prop) (E:Value→Shared→Prop),(evL ev values sl).Holds P X →
  (∀ prs vs s',QL prog w F env sl ρ s P vs s'→Carries (PySem.strKind prog w) prs (ks.zip vs)→ks.length=vs.length→Q prs s')→OnExc prog w EO F sl ρ s X E→wpAny (model prog w) A (evalPairs (pairTrees keys values F.env pos)) Q E s
 | [],[],ks,sl,ρ,s,hk,_,I=>fun P X Q E h hQ _=>by
  have hk:some []=some ks:=hk
  injection hk with hk; subst hk
  exact pairTrees_nil_walk (hQ [] [] s ⟨none,[],ρ,I,rfl,.refl ..,h⟩ trivial rfl)
 | [],_ :: _,_,_,_,_,_,hl,_=>nomatch hl
 | _ :: _,[],_,_,_,_,_,hl,_=>nomatch hl
 | key :: keys,e :: r,ks,sl,ρ,s,hk,hl,I=>fun P X Q E h hQ hE=>by
  (refine ob43 (LD hk) fun x kk p m ζ1 hm ζ2=>?_; subst ζ1; subst ζ2)
  refine ob02 (AA h) fun _ h=>?_
  refine pairTrees_cons_walk (wpAny_Constant_str ?_)
  have I₀:=I.calm (.tok (F:=F) (sl:=sl) (ρ:=ρ) (s:=s) (s.toks+1))
  have ev₀:=(Calm.tok (F:=F) (sl:=sl) (ρ:=ρ) (s:=s) (s.toks+1)).evo
  refine hev e sl ρ _ I₀ _ X _ _ (FN h) (fun v s₁ h₁=>?_) (hE.after ev₀)
  (refine ob34 h₁ ?_; clear h₁; intro o av ρ₁ I₁ hv ev₁ hp)
  refine FE hev pos keys r m _ ρ₁ s₁ hm (by simpa using hl) I₁ _ X _ _ (R.holds_bind hp) (fun prs vs s₂ h₂ hc hn=>hQ _ (v :: vs) _ ?_ ⟨strKind_is prog w x _,rfl,hc⟩ (by simp [hn])) (hE.after (ev₀.trans ev₁))
  (refine ob34 h₂ ?_; clear h₂; intro o₂ avs ρ₂ I₂ hvs ev₂ hp₂)
  refine ⟨B9 o o₂,av :: avs,ρ₂,?_,?_,?_,hp₂⟩<;>rw [BH]
  ·exact I₂
  ·exact ⟨v,vs,rfl,ev₂.has hv,hvs⟩
  ·exact (ev₀.trans ev₁).trans ev₂
theorem Evo.unhide {sl':SL} {ρ':List Addr} {s₀ s':Shared} {d:Addr} (x:Evo (F.hide d) sl ρ s sl' ρ' s') (g:Grow s₀ s):Evo F sl ρ s₀ sl' ρ' s':=
 ⟨fun a o e hm=>x.keep a o (g.keep a o e) hm,x.gens.trans g.gens,x.drawn.trans g.drawn,x.os.trans g.os,x.ext,fun a h=>(x.mu a h).elim .inl fun z=>.inr (by
  cases e:s₀.heap.get? a with
  | none=>rfl
  | some o=>rw [g.keep a o e] at z; cases z),fun a o e=>x.live a o (g.keep a o e)⟩
theorem Past.unhide {s₀ s':Shared} {d:Addr} (x:Past (F.hide d) sl ρ s s') (g:Grow s₀ s):Past F sl ρ s₀ s':=
 ⟨fun a o e hm=>x.keep a o (g.keep a o e) hm,x.gens.trans g.gens,x.drawn.trans g.drawn,x.os.trans g.os,fun a o e=>x.live a o (g.keep a o e)⟩
theorem Grow.dead {s₀ s:Shared} (g:Grow s₀ s) {a:Addr} (h:s.heap.get? a=none):s₀.heap.get? a=none:=by
 cases q:s₀.heap.get? a with
 | none=>rfl
 | some o=>rw [g.keep a o q] at h; exact nomatch h
theorem Grow.push (s:Shared) (o:Obj):Grow s { s with heap:=s.heap.push o }:=⟨fun _ _ e=>Heap.get?_push_of_some _ e,rfl,rfl,rfl⟩
theorem afG {ev:Expr→SL→RE} (hev:∀ d,Ok prog w EO (F.hide d) env A ev) (I:Inv prog w F env sl ρ s) {keys:List (Option Expr)} {values:List Expr} {pos:Pos} :
  Tri prog w EO F env sl ρ s A (match LZ keys,decide (keys.length=values.length∧keys.length≤15) with
  | some ks,true=>(match decide ks.Nodup with
   | true=>seqLE (evL ev values sl) sl fun l _=>.ret (none,.dS ks l)
   | false=>.fail)
  | _,_=>.fail) (eval (.Dict keys values pos) F.env):=fun P X Q E h hQ hE=>by
 split at h
 ·rename_i ks hk hd
  refine ob02 (of_decide_eq_true hd) fun hl hlen=>?_
  split at h
  ·rename_i hnd
   have hnd:=of_decide_eq_true hnd
   refine ob02 (GZ hk) fun hall hkl=>?_
   by_cases h0:keys=[]
   ·subst h0
    have hv:values=[]:=List.length_eq_zero_iff.mp hl.symm
    subst hv
    have hk:some []=some ks:=hk
    injection hk with hk; subst hk
    refine wpAny_Dict_empty (hQ _ _ (A9 I (.push _ _) (av:=.dS [] []) ?_ h))
    refine ob12 (Heap.dictOf_iff.mp (Heap.DictOf.new (knd:=PySem.strKind prog w) s.heap)) fun o h1 h2=>?_
    exact ⟨_,o,[],rfl,C2 I (AJ _) h1,h2,rfl,rfl⟩
   ·let D:=s.heap.objs.size
    have hnew:s.heap.get? D=none:=AJ _
    have hobj:(s.heap.push { cls:=.type "dict",data:=.dict #[] }).get? D=some { cls:=.type "dict",data:=.dict #[] }:=Heap.get?_push_size _ rfl
    have g:=Grow.push s { cls:=.type "dict",data:=.dict #[] }
    have Ip:Inv prog w (F.hide D) env sl ρ { s with heap:=s.heap.push { cls:=.type "dict",data:=.dict #[] } }:=I.hide g.keep hnew ⟨_,hobj⟩
    have nf:¬ F.fr D:=I.nfr hnew
    have nm:¬ Mut F sl ρ D:=fun q=>by
     (refine ob02 (I.low D (.inr q)) fun _ ζ1=>?_; refine ob11 ζ1 ?_; clear ζ1; intro o e)
     rw [hnew] at e; exact nomatch e
    refine wpAny_Dict_walk (knd:=PySem.strKind prog w) hall hl h0 hlen ?_
    refine FE (hev D) pos keys values ks sl ρ _ hk hl Ip _ X _ _ (BJ h) (fun prs vs s₁ h₁ hc hn=>?_) ?_
    ·(refine ob34 h₁ ?_; clear h₁; intro o l ρ₁ I₁ hvs ev₁ hp)
     have hdo:s₁.heap.get? D=some { cls:=.type "dict",data:=.dict #[] }:=(ev₁.keep D _ hobj nm).exact nf
     refine ⟨_,hc,?_,fun h' hd' hsb=>?_⟩
     ·refine ob12 (Heap.dictOf_iff.mp (Heap.DictOf.new (knd:=PySem.strKind prog w) s.heap)) fun o' e1 e2=>?_
      refine Heap.dictOf_iff.mpr ⟨o',?_,e2⟩
      rw [hdo,← hobj,← e1]
     ·rw [merged_nil_of_nodup _ (by rw [List.map_fst_zip (by omega)]; exact hnd)] at hd'
      refine ob12 (Heap.dictOf_iff.mp hd') fun o' e1 e2=>?_
      have kp:=BS hsb
      let s₂:Shared:={ s₁ with heap:=h',toks:=s₁.toks+prs.length }
      have I₂:Inv prog w F env (o.getD sl) ρ₁ s₂:=I₁.show kp ⟨o',e1⟩ nf
      have hbad:¬ Bad F (o.getD sl) ρ₁ D:=fun q=>by
       rcases q with q | q
       ·(refine ob02 (I.low D (.inl q)) fun _ ζ1=>?_; refine ob11 ζ1 ?_; clear ζ1; intro o e)
        rw [hnew] at e; exact nomatch e
       ·rcases ev₁.mu D q with z | z
        ·exact nm z
        ·have z':(s.heap.push { cls:=.type "dict",data:=.dict #[] }).get? D=none:=z
         rw [hobj] at z'; exact nomatch z'
      have hsm:(D==sysModules)=false:=(C2 I (s':={ s with heap:=s.heap.push { cls:=.type "dict",data:=.dict #[] } }) hnew hobj).2.2
      refine hQ _ _ ⟨o,.dS ks l,ρ₁,I₂,⟨D,o',vs,rfl,⟨e1,hbad,hsm⟩,e2,hn,?_⟩,?_,?_⟩
      ·exact HasL.mono prog w (fun b ob hb=>⟨kp b ob (fun e=>hb.2.1 (bad_hide.mpr (.inr e))) hb.1,fun q=>hb.2.1 (bad_hide.mpr (.inl q)),hb.2.2⟩) (fun _ _ e=>e) _ _ hvs
      ·have e:=ev₁.unhide g
       exact ⟨fun a ob ha hm=>(e.keep a ob ha hm).trans fun o' h'=>.of (kp a o' (fun q=>by subst q; rw [hnew] at ha; exact nomatch ha) h'),e.gens,e.drawn,e.os,e.ext,e.mu,fun a ob ha=>ob11 (e.live a ob ha) fun o' h'=>⟨o',kp a o' (fun q=>by subst q; rw [hnew] at ha; exact nomatch ha) h'⟩⟩
      ·have hp:P (B9 o none,.dS ks l):=hp
       cases o<;>exact hp
    ·intro hX e s' p f he
     exact hE hX e s' (p.unhide g) (fun a ha=>g.dead (f a ha)) he
  ·exact h.elim
 ·exact h.elim
end
end Mine
end
section
open PySem.SeqAt
namespace Mine
section
variable {prog:Program} {w:World} {EO:Value→Shared→Prop} {F:Frm} {env:AEnv} {sl:SL} {ρ:List Addr} {s:Shared} {A:Around} {d:Nat}
noncomputable def Z6 (v:AV) (t f:RE):RE:=match v with
 | .bool true=>t
 | .bool false=>f
 | .sb b=>D0 (E6 t) (E6 f) (fun p q=>.need ((b=true→p.1)∧(b=false→q.1)) (.ret (none,IJ b p.2 q.2))) (.ite b t f)
 | _=>.fail
theorem OC (x:RE) (sl:SL) (t f:SL→RE):NW x sl t f=seqE x sl fun v sl=>Z6 v (t sl) (f sl):=by
 unfold NW
 congr 1
theorem OD {av:AV} {t f:RE} (h:(AQ av).isSome=false):∀ (P:Option SL×AV→Prop) (X:Prop),¬ (Z6 av t f).Holds P X:=by
 cases av<;>first | exact fun P X h=>h | exact nomatch h
theorem EF {V:Vis} {b:Bool} {x y:AV} {v:Value} (h1:b=true→Has prog w V ρ x v) (h2:b=false→Has prog w V ρ y v):Has prog w V ρ (IJ b x y) v:=by
 refine CA (C:=fun z=>Has prog w V ρ z v) (fun i j e1 e2=>?_) (CA (C:=fun z=>Has prog w V ρ z v) (fun i j e1 e2=>?_) (CA (C:=fun z=>Has prog w V ρ z v) (fun i j e1 e2=>?_) ⟨h1,h2⟩))
 ·cases b with
  | true=>exact CI (i:=i.1) (b:=i.2) e1 (h1 rfl)
  | false=>exact CI (i:=j.1) (b:=j.2) e2 (h2 rfl)
 ·cases b with
  | true=>exact BP (i:=i.1) (b:=i.2) e1 (h1 rfl)
  | false=>exact BP (i:=j.1) (b:=j.2) e2 (h2 rfl)
 ·rw [EN e1] at h1
  rw [EN e2] at h2
  cases b with
  | true=>exact h1 rfl
  | false=>exact h2 rfl
theorem ST {b:Bool} {x y:AV} (h:(AQ (IJ b x y)).isSome=true):(AQ x).isSome=true∧(AQ y).isSome=true:=by
 revert h
 exact CA (C:=fun z=>(AQ z).isSome=true→_) (fun _ _ _ _ h=>EM h) (CA (C:=fun z=>(AQ z).isSome=true→_) (fun _ _ e1 e2 _=>⟨by rw [e1]; rfl,by rw [e2]; rfl⟩) (CA (C:=fun z=>(AQ z).isSome=true→_) (fun _ _ _ _ h=>EM h) fun h=>EM h))
theorem Z7 {t f:RE} {av:AV} {b:Bool} {x y:Sem Value} (hv:Has prog w (Vw F sl ρ s.heap) ρ av (.bool b)) (ht:Tri prog w EO F env sl ρ s A t x) (hf:Tri prog w EO F env sl ρ s A f y) :
  Tri prog w EO F env sl ρ s A (Z6 av t f) (if b=true then x else y):=by
 cases av with
 | bool c=>
  have e:Value.bool b=.bool c:=hv
  injection e with e
  subst e
  cases b<;>first | exact ht | exact hf
 | sb c=>
  have e:Value.bool b=.bool c:=hv
  injection e with e
  subst e
  intro P X Q E h hQ hE
  refine FR h (fun p q hp hq h=>ob02 h fun ζ1 h3=>ob02 ζ1 fun h1 h2=>?_) fun h=>?_
  ·cases b with
   | true=>exact ht _ False Q E (BU hp (h1 rfl)) (fun v s' k=>hQ _ _ (I7 k (fun V ρ' hh=>EF (b:=true) (fun _=>hh) (fun e=>(nomatch e))) h3)) (fun hX=>hX.elim)
   | false=>exact hf _ False Q E (BU hq (h2 rfl)) (fun v s' k=>hQ _ _ (I7 k (fun V ρ' hh=>EF (b:=false) (fun e=>(nomatch e)) (fun _=>hh)) h3)) (fun hX=>hX.elim)
  ·cases b with
   | true=>exact ht P X Q E (h.1 rfl) hQ hE
   | false=>exact hf P X Q E (h.2 rfl) hQ hE
 | _=>exact Tri.fail
theorem V6 {t f:RE} {av:AV} {b:Bool} {x y:Sem Bool} (hv:Has prog w (Vw F sl ρ s.heap) ρ av (.bool b)) (ht:TriB prog w EO F env sl ρ s A t x) (hf:TriB prog w EO F env sl ρ s A f y) :
  TriB prog w EO F env sl ρ s A (Z6 av t f) (if b=true then x else y):=by
 cases av with
 | bool c=>
  have e:Value.bool b=.bool c:=hv
  injection e with e
  subst e
  cases b<;>first | exact ht | exact hf
 | sb c=>
  have e:Value.bool b=.bool c:=hv
  injection e with e
  subst e
  intro P X Q E h hQ hE
  refine FR h (fun p q hp hq h=>ob03 h fun ζ1 h4 h3=>ob02 ζ1 fun h1 h2=>?_) fun h=>?_
  ·have one:∀ {z:RE} {c:Prop×AV} {y:Sem Bool},E6 z=some c→c.1→TriB prog w EO F env sl ρ s A z y→(∀ V ρ' b',Has prog w V ρ' c.2 (.bool b')→Has prog w V ρ' (IJ b p.2 q.2) (.bool b'))→(AQ c.2).isSome=true→wpAny (model prog w) A y Q E s:=fun hz hp hy hh hb=>
    hy (fun r=>r=(none,_)) False Q E (R.holds_mono (fun q hq=>⟨by rw [hq]; exact hb,hq⟩) id (BU hz hp)) (fun v s' k=>hQ _ _ (PR k (fun V ρ' h=>hh V ρ' _ h) h3)) (fun hX=>hX.elim)
   have hj:=ST h4
   cases b with
   | true=>exact one hp (h1 rfl) ht (fun V ρ' c hh=>EF (fun _=>hh) (fun e=>nomatch e)) hj.1
   | false=>exact one hq (h2 rfl) hf (fun V ρ' c hh=>EF (fun e=>nomatch e) (fun _=>hh)) hj.2
  ·cases b with
   | true=>exact ht P X Q E (h.1 rfl) hQ hE
   | false=>exact hf P X Q E (h.2 rfl) hQ hE
 | _=>exact fun _ _ _ _ h _ _=>h.elim
theorem Z8 {ev:Expr→SL→RE} (hev:Ok prog w EO F env A ev) (hB:OkB prog w EO F env A ev) (I:Inv prog w F env sl ρ s) {t b o:Expr} {pos:Pos} :
  Tri prog w EO F env sl ρ s A (NW (ev t sl) sl (ev b) (ev o)) (eval (.IfExp t b o pos) F.env):=fun P X Q E h hQ hE=>by
 rw [OC] at h
 refine wpAny_IfExp (wpAny_mono (TriB.then (u:=fun c=>if c=true then eval b F.env else eval o F.env) (hB t sl ρ s I) (fun av sl h P X=>OD h P X) (fun c av sl₁ ρ₁ s₁ I₁ hv ev₁=>Z7 hv (hev b _ _ _ I₁) (hev o _ _ _ I₁)) h hQ hE) (fun c s' k=>?_) fun _ _ x=>x)
 cases c<;>exact k
theorem V7 {ev:Expr→SL→RE} (hB:OkB prog w EO F env A ev) (I:Inv prog w F env sl ρ s) {t b o:Expr} {pos:Pos} :
  TriB prog w EO F env sl ρ s A (NW (ev t sl) sl (ev b) (ev o)) (isTrue (.IfExp t b o pos) F.env (eval (.IfExp t b o pos) F.env)):=fun P X Q E h hQ hE=>by
 rw [OC] at h
 show wpAny _ _ (do if ← isTrue t F.env (eval t F.env) then isTrue b F.env (eval b F.env) else isTrue o F.env (eval o F.env)) _ _ _
 refine wpAny_bind (wpAny_mono (TriB.thenB (u:=fun c=>if c=true then isTrue b F.env (eval b F.env) else isTrue o F.env (eval o F.env)) (hB t sl ρ s I) (fun av sl h P X=>OD h P X) (fun c av sl₁ ρ₁ s₁ I₁ hv ev₁=>V6 hv (hB b _ _ _ I₁) (hB o _ _ _ I₁)) h hQ hE) (fun c s' k=>?_) fun _ _ x=>x)
 cases c<;>exact k
theorem QE.after {o:Option SL} {ρ₁:List Addr} {s₁ s':Shared} {P:Option SL×AV→Prop} {v:Value} (ev₁:Evo F sl ρ s (o.getD sl) ρ₁ s₁) (h:QE prog w F env (o.getD sl) ρ₁ s₁ (fun q=>P (B9 o q.1,q.2)) v s'):QE prog w F env sl ρ s P v s':=by
 (refine ob34 h ?_; clear h; intro o₂ av ρ₂ I₂ hv ev₂ hp)
 refine ⟨B9 o o₂,av,ρ₂,?_,?_,?_,hp⟩<;>rw [BH]
 ·exact I₂
 ·exact hv
 ·exact ev₁.trans ev₂
theorem QE.calm {s₁ s':Shared} {P:Option SL×AV→Prop} {v:Value} (cm:Calm F sl ρ s s₁) (h:QE prog w F env sl ρ s₁ P v s'):QE prog w F env sl ρ s P v s':=by
 (refine ob34 h ?_; clear h; intro o av ρ' h1 h2 h3 h4)
 exact ⟨o,av,ρ',h1,h2,cm.evo.trans h3,h4⟩
theorem IntsA.take:∀ {l:List Int} {vs:List Value} (n:Nat),IntsA l vs→IntsA (l.take n) (vs.take n)
 | l,vs,0,_=>by simp [IntsA]
 | [],_,n+1,h=>by rw [show _=[] from h]; rfl
 | x :: l,_,n+1,⟨t,r,e,h⟩=>by subst e; exact ⟨t,r.take n,rfl,IntsA.take n h⟩
theorem HasL.reverse {V:Vis}:∀ {l:List AV} {vs:List Value},HasL prog w V ρ l vs→HasL prog w V ρ l.reverse vs.reverse
 | [],_,h=>by rw [show _=[] from h]; rfl
 | x :: l,_,⟨v,r,e,h1,h2⟩=>by
  subst e
  rw [List.reverse_cons,List.reverse_cons]
  exact HasL.append (HasL.reverse h2) ⟨v,[],rfl,h1,rfl⟩
theorem ajI {ev:Expr→SL→RE} (hev:Ok prog w EO F env A ev) (I:Inv prog w F env sl ρ s) {v i:Expr} {pos:Pos} (hi:∀ l u t p,i≠.Slice l u t p) :
  Tri prog w EO F env sl ρ s A (seqE (ev v sl) sl fun a sl=>seqE (ev i sl) sl fun b sl=>DC (J2 sl a b)) (eval (.Subscript v i pos) F.env):=fun P X Q E h hQ hE=>by
 have hs:∀ o x,subscripted i false o x=operate [o,x] (getItem o x):=fun o x=>by
  cases i<;>first | rfl | exact absurd rfl (hi _ _ _ _)
 refine Subscript_ (hev v sl ρ s I _ X _ _ (BB h) (fun o s₁ h₁=>?_) hE)
 (refine ob34 h₁ ?_; clear h₁; intro o₁ a ρ₁ I₁ ho ev₁ hp)
 refine hev i _ ρ₁ s₁ I₁ _ X _ _ (BB hp) (fun x s₂ h₂=>?_) (hE.after ev₁)
 (refine ob34 h₂ ?_; clear h₂; intro o₂ b ρ₂ I₂ hx ev₂ hp₂)
 have hp₂:=BL hp₂
 exact PJ I₂ (ev₂.has ho) hx hp₂ (fun v s' av cm hv hp=>hQ _ _ (QE.after ev₁ (QE.after ev₂ (A9 I₂ cm hv hp)))) hs
theorem MF {C:Prop} {α β:Type} {o:Option α} {k:R β} {P:β→Prop} {X:Prop} (h:(ZO o k).Holds P X) (K:o=none→k.Holds P X→C):C:=by
 cases o with
 | none=>exact K rfl h
 | some x=>exact h.elim
theorem PS {C:Prop} {α β:Type} {l:List α} {k:R β} {P:β→Prop} {X:Prop} (h:(nil1 l k).Holds P X) (K:l=[]→k.Holds P X→C):C:=by
 cases l with
 | nil=>exact K rfl h
 | cons x r=>exact h.elim
theorem afH {C:Prop} {α β:Type} {l:List α} {k:α→R β} {P:β→Prop} {X:Prop} (h:(one1 l k).Holds P X) (K:∀ x,l=[x]→(k x).Holds P X→C):C:=by
 cases l with
 | nil=>exact h.elim
 | cons x r=>exact PS h fun e h=>K x (by rw [e]) h
theorem V8 {C:Prop} {β:Type} {e:Expr} {k:Int→R β} {P:β→Prop} {X:Prop} (h:(cstI e k).Holds P X) (K:∀ i u p,e=.Constant (.int i) u p→(k i).Holds P X→C):C:=by
 cases e<;>try exact h.elim
 rename_i c u p
 cases c<;>first | exact h.elim | exact K _ u p rfl h
theorem afI {C:Prop} {β:Type} {e:Expr} {k:UnaryOp→Expr→R β} {P:β→Prop} {X:Prop} (h:(onUn e k).Holds P X) (K:∀ op x p,e=.UnaryOp op x p→(k op x).Holds P X→C):C:=by
 cases e<;>first | exact h.elim | exact K _ _ _ rfl h
theorem Z9 {C:Prop} {β:Type} {op:UnaryOp} {k:R β} {P:β→Prop} {X:Prop} (h:(aiX op k).Holds P X) (K:op=.USub→k.Holds P X→C):C:=by
 cases op<;>first | exact h.elim | exact K rfl h
theorem aaA {ev:Expr→SL→RE} (hev:Ok prog w EO F env A ev) (I:Inv prog w F env sl ρ s) {v:Expr} {l u t:Option Expr} {p pos:Pos} :
  Tri prog w EO F env sl ρ s A (seqE (ev v sl) sl fun a _=>DC (acE a l u t)) (eval (.Subscript v (.Slice l u t p) pos) F.env):=fun P X Q E h hQ hE=>by
 refine Subscript_ (hev v sl ρ s I _ X _ _ (BB h) (fun o s₁ h₁=>?_) hE)
 (refine ob34 h₁ ?_; clear h₁; intro o₁ a ρ₁ I₁ ho ev₁ hp)
 revert o
 refine MF (BL hp) fun el hp=>DD hp (fun u eu hp=>?_) fun eu hp=>?_
 ·refine MF hp fun et hp=>V8 hp fun n k p' ec hp=>?_
  rw [el,eu,et,ec]
  refine NZ hp fun ns b vs m hv hi hp=>ob02 (AA hp) fun hn0 hp=>ob02 hp fun hz hp=>?_
  obtain ⟨n,rfl⟩:=Int.eq_ofNat_of_zero_le (of_decide_eq_true hn0)
  have hn:=hi.length
  refine wpAny_Slice (wpAny_pure (wpAny_Constant_int (k:=k) (pos:=p') (wpAny_pure ?_)))
  let s₂:Shared:={ s₁ with heap:=s₁.heap.push { cls:=.type "slice",data:=.fields #[.none,.int (Int.ofNat n) s₁.toks,.none] },toks:=s₁.toks+1 }
  have cm:Calm F (o₁.getD sl) ρ₁ s₁ s₂:=.push _ _
  have hl:s₂.heap.IsList b vs.toArray:=⟨_,cm.keep _ _ hv.1,rfl,m,rfl⟩
  refine tail_any (T := "list") hl.typeIs PySem.F.slot_list_getitem.lookup (wpAny_getItem_list_slice hl (Heap.IsSliceOf.new ..) .none (.int _ _) .none (by simp) ?_ (by rw [List.size_toArray]; exact BM (by omega))) rfl
  rw [slicePick_upto']
  have I₂:=I₁.calm cm
  refine hQ _ _ (QE.after ev₁ (QE.calm cm (A9 I₂ (.push _ _) (av:=.ints (ns.take n)) ⟨_,vs.take n,0,rfl,C2 I₂ (AJ _) ?_,?_⟩ hp)))
  ·rw [Heap.get?_push_size _ rfl]
  ·exact hi.take n
 ·refine AX hp fun e et hp=>afI hp fun op x p'' e1 hp=>Z9 hp fun e2 hp=>V8 hp fun i k p' ec hp=>ob02 (AA hp) fun hi hp=>?_
  rw [el,eu,et,e1,e2,ec,of_decide_eq_true hi]
  refine L5 hp fun xs b vs m hv hi hp=>ob02 (AA hp) fun hz hp=>?_
  have hn:=hi.length
  have hb:=BR hz
  refine wpAny_Slice (wpAny_pure (wpAny_pure (wpAny_UnaryOp (pos:=p'') (wpAny_Constant_int (k:=k) (pos:=p') (PyProof.Rows.neg_int ?_)))))
  let s₂:Shared:={ s₁ with heap:=s₁.heap.push { cls:=.type "slice",data:=.fields #[.none,.none,.int (-1) (s₁.toks+1)] },toks:=s₁.toks+1+1 }
  have cm:Calm F (o₁.getD sl) ρ₁ s₁ s₂:=.push _ _
  have hl:s₂.heap.IsList b vs.toArray:=⟨_,cm.keep _ _ hv.1,rfl,m,rfl⟩
  refine tail_any (T := "list") hl.typeIs PySem.F.slot_list_getitem.lookup (wpAny_getItem_list_slice hl (Heap.IsSliceOf.new ..) .none .none (.int _ _) (by simp) ?_ (by rw [List.size_toArray]; exact BM (by omega))) rfl
  rw [krv_pick]
  have I₂:=I₁.calm cm
  refine hQ _ _ (QE.after ev₁ (QE.calm cm (A9 I₂ (.push _ _) (av:=.lst xs.reverse) ⟨_,vs.reverse,0,rfl,C2 I₂ (AJ _) ?_,?_⟩ hp)))
  ·rw [Heap.get?_push_size _ rfl]
  ·exact ((cm.trans (.push _ _)).evo.hasL hi).reverse
end
end Mine
end
section
open PySem.SeqAt
namespace Mine
section
variable {prog:Program} {w:World} {EO:Value→Shared→Prop} {F:Frm} {env:AEnv} {sl:SL} {ρ:List Addr} {s:Shared} {A:Around} {d:Nat}
theorem FV {e:Expr} {x:Str} (h:PH e=some x):∃ p,e=.Name x p:=by
 cases e<;>first | exact A0 h | exact ⟨_,by rw [Option.some.inj h]⟩
theorem PT {α:Type} {l:List α} {x:α} (h:oneO l=some x):l=[x]:=by
 rcases l with _ | ⟨y,_ | ⟨z,r⟩⟩
 ·exact nomatch h
 ·rw [Option.some.inj h]
 ·exact nomatch h
theorem EP {e:Expr} {r:List Expr} (h:CG (e :: r)=true):(∀ x p,e≠.Starred x p)∧CG r=true:=by
 have h:(!isK 22 e&&CG r)=true:=h
 rw [Bool.and_eq_true] at h
 exact ⟨acI h.1,h.2⟩
theorem BA {env:Env} {pos:Pos}:∀ {args:List Expr},CG args=true→(backTo pos (starEach args env)).any (·.1)=false∧(backTo pos (starEach args env)).all (fun x=>!x.1)=true
 | [],_=>⟨rfl,rfl⟩
 | e :: r,h=>by
  refine ob02 (EP h) fun h1 h2=>?_
  refine ob02 (BA (env:=env) (pos:=pos) h2) fun i1 i2=>?_
  rw [DL h1]
  exact ⟨by show (false||(backTo pos (starEach r env)).any (·.1))=false; rw [i1]; rfl,by show (true&&(backTo pos (starEach r env)).all (fun x=>!x.1))=true; rw [i2]; rfl⟩
theorem CN {M:Model} {E:Value→Shared→Prop} {f:Value} {env:Env} {pos:Pos} {Q:Args→Shared→Prop}:∀ {args:List Expr},CG args=true→wpAny M A (spliced (backTo pos (starEach args env))) (fun vs s'=>Q ⟨vs,[]⟩ s') E s →
  wpAny M A (evalArgs f true (backTo pos (starEach args env)) []) Q E s
 | [],_,h=>by
  unfold evalArgs
  show wpAny M A (spliced [] >>= _) Q E s
  refine wpAny_bind (wpAny_mono h (fun vs s' h'=>?_) fun _ _ x=>x)
  refine wpAny_holding ?_
  exact wpAny_bind (wpAny_pure (wpAny_bind (wpAny_pure (wpAny_pure h'))))
 | e :: r,hn,h=>by
  rw [DL (EP hn).1] at h ⊢
  exact evalArgs_plain h
theorem QE.afterL {o:Option SL} {ρ₁:List Addr} {s₁ s':Shared} {P:Option SL×AV→Prop} {v:Value} (ev₁:Evo F sl ρ s (o.getD sl) ρ₁ s₁) (h:QE prog w F env (o.getD sl) ρ₁ s₁ (fun q=>P (B9 o q.1,q.2)) v s'):QE prog w F env sl ρ s P v s':=QE.after ev₁ h
theorem aaB {C:Ctx} (hF:FOK F C prog w A) {ev:Expr→SL→RE} (hev:Ok prog w EO F env A ev) (r:Room A d) (I:Inv prog w F env sl ρ s) {f:Str} {k:BK} {args:List Expr} {p pos:Pos} (hk:bkOf f=some k) (hg:F.env.scope.names.lookup f=some .globalImplicit) (hd:(f==("__debug__" : Str))=false) (hns:CG args=true) :
  Tri prog w EO F env sl ρ s A (seqLE (evL ev args sl) sl fun l sl=>DC (ZM k sl l)) (eval (.Call (.Name f p) args [] pos) F.env):=fun P X Q E h hQ hE=>by
 refine ob25 hF.glob.names fun mg mb n1 n2 _ n4 _=>?_
 refine ob02 (n4 f k hk) fun e1 e2=>?_
 refine Call_Name rfl (Name_function_global hF.frm.kind hg (loadGlobal_builtin (mg:=mg) (mb:=mb) (by rw [hF.frm.glob]; exact n1.keeps I.base) e1 (by rw [hF.frm.blt]; exact n2.keeps I.base) e2 ?_) hd)
 have body:∀ (vs:List Value) (s₁:Shared),QL prog w F env sl ρ s (fun p=>((fun l sl=>DC (ZM k sl l)) p.2 (p.1.getD sl)).Holds (fun q=>P (B9 p.1 q.1,q.2)) X) vs s₁→wpAny (model prog w) A (call k.val vs) Q E s₁:=fun vs s₁ h₁=>by
  (refine ob34 h₁ ?_; clear h₁; intro o l ρ₁ I₁ hl ev₁ hp)
  have hp:=BL hp
  exact PL _ r I₁ hl hp fun v s' av cm hv hp=>hQ _ _ (QE.after ev₁ (A9 I₁ cm hv hp))
 have args_ok:wpAny (model prog w) A (evalArgs k.val true (backTo pos (starEach args F.env)) []) (fun a s₁=>wpAny (model prog w) A (call k.val ([]++a.pos) a.kw) Q E s₁) E s:=
  CN hns (GH hev pos args sl ρ s I _ X _ _ (BJ h) (fun vs s₁ h₁=>body vs s₁ h₁) hE)
 cases k
 ·exact callWith_builtin (BA hns).1 args_ok
 ·exact PyProof.Rows.callWith_type (BA hns).1 args_ok
 ·exact callWith_builtin (BA hns).1 args_ok
 ·exact callWith_builtin (BA hns).1 args_ok
 ·exact PyProof.Rows.callWith_type (BA hns).1 args_ok
 ·exact PyProof.Rows.callWith_type (BA hns).1 args_ok
 ·exact PyProof.Rows.callWith_type (BA hns).1 args_ok
theorem RI {l:List AV} {vs:List Value} {P:Option SL×List AV→Prop} {X:Prop} (I:Inv prog w F env sl ρ s) (hl:HasL prog w (Vw F sl ρ s.heap) ρ l vs) (h:(VG sl l).Holds P X) :
  ∃ o l',Inv prog w F env (o.getD sl) ρ s∧HasL prog w (Vw F (o.getD sl) ρ s.heap) ρ l' vs∧Evo F sl ρ s (o.getD sl) ρ s∧D6 l'=true∧P (o,l'):=by
 unfold VG at h
 cases hp:D6 l with
 | true=>rw [hp] at h; exact ⟨none,l,I,hl,.refl ..,hp,h⟩
 | false=>
  rw [hp] at h
  exact AX h fun p e h=>ob02 (AA h) fun hz h=>ob02 (ME 64 sl l p vs e I hl) fun f1 f2=>⟨some p.1,p.2,f1.1,f2,f1.2,hz,h⟩
theorem I8 {l:AV} {vs:Value} {P:Option SL×AV→Prop} {X:Prop} (I:Inv prog w F env sl ρ s) (hl:Has prog w (Vw F sl ρ s.heap) ρ l vs) (h:(frzE sl l).Holds P X) :
  ∃ o l',Inv prog w F env (o.getD sl) ρ s∧Has prog w (Vw F (o.getD sl) ρ s.heap) ρ l' vs∧Evo F sl ρ s (o.getD sl) ρ s∧G7 l'=true∧P (o,l'):=by
 unfold frzE at h
 cases hp:G7 l with
 | true=>rw [hp] at h; exact ⟨none,l,I,hl,.refl ..,hp,h⟩
 | false=>
  rw [hp] at h
  exact AX h fun p e h=>ob02 (AA h) fun hz h=>ob02 (acJ 64 sl l p vs e I hl) fun f1 f2=>⟨some p.1,p.2,f1.1,f2,f1.2,hz,h⟩
theorem Room.less {n:Nat} (r:Room A d) (h:n≤d):Room A n:=by
 obtain ⟨h1,h2,h3⟩:=r
 exact ⟨by omega,by omega,h3⟩
theorem aaC {C:Ctx} (hF:FOK F C prog w A) {ev:Expr→SL→RE} (hev:Ok prog w EO F env A ev) (r:Room A d) (I:Inv prog w F env sl ρ s) {f:Str} {fn:Fn} {args:List Expr} {p pos:Pos} (hk:C.funs.lookup f=some fn) (hfd:fn.height<d) (hg:F.env.scope.names.lookup f=some .globalImplicit) (hd:(f==("__debug__" : Str))=false) (hns:CG args=true) :
  Tri prog w EO F env sl ρ s A (seqLE (evL ev args sl) sl fun l sl=>seqLE (VG sl l) sl fun l _=>DC (fn.spec l)) (eval (.Call (.Name f p) args [] pos) F.env):=fun P X Q E h hQ hE=>by
 refine ob26 hF.glob.names fun mg mb n1 n2 _ _ n5 _=>?_
 refine ob35 (n5 f fn hk) fun a o fd e1 e2 e3 hfn hne=>?_
 refine Call_Name rfl (Name_function_global hF.frm.kind hg (loadGlobal_global (mg:=mg) (by rw [hF.frm.glob]; exact n1.keeps I.base) e1 ?_) hd)
 refine callWith_function (o:=o) (fd:=fd) (CN hns (GH hev pos args sl ρ s I _ X _ _ (BJ h) (fun vs s₁ h₁=>?_) hE))
 (refine ob34 h₁ ?_; clear h₁; intro o₁ l ρ₁ I₁ hl ev₁ hp)
 refine ⟨⟨I₁.base a o e2,e3⟩,?_⟩
 refine ob25 (RI I₁ hl (BJ hp)) fun o₂ l' I₂ hl' ev₂ hpl hp=>?_
 have hp:=NoExc.holds (hne _) (BL hp)
 exact hfn (Bad F (o₂.getD (o₁.getD sl)) ρ₁) (Around1 F) s₁ A vs l' _ Q E I₁.base I₂.low Around1.bad I₂.around1 hF.frm.frames (r.less hfd) (CW _ _ hpl hl') hp fun v s' av g hv hP=>hQ _ _ (QE.after ev₁ (QE.after ev₂ (ob02 (I₂.called g.keep g.gens g.drawn g.os) fun I₃ ev₃=>⟨none,av,ρ₁,I₃,V5 hv,ev₃,hP⟩)))
theorem aaD {C:Ctx} (hF:FOK F C prog w A) {ev:Expr→SL→RE} (hev:Ok prog w EO F env A ev) (r:Room A d) (I:Inv prog w F env sl ρ s) {f:Str} {wf:WFn} {wx:Expr} {rest:List Expr} {p pos:Pos} (hk:C.wfuns.lookup f=some wf) (hfd:wf.height<d) (hg:F.env.scope.names.lookup f=some .globalImplicit) (hd:(f==("__debug__" : Str))=false)
  (hw:acD wx=true) {n:Nat} (hn:env.lookup ("well" : Str)=some (.loc n)) (hns:CG (wx :: rest)=true) :
  Tri prog w EO F env sl ρ s A (acF wf ev n rest sl) (eval (.Call (.Name f p) (wx :: rest) [] pos) F.env):=fun P X Q E h hQ hE=>by
 refine ob26 hF.glob.names fun mg mb n1 n2 _ _ _ n6=>?_
 refine ob35 (n6 f wf hk) fun a o fd e1 e2 e3 hfn hne=>?_
 refine Call_Name rfl (Name_function_global hF.frm.kind hg (loadGlobal_global (mg:=mg) (by rw [hF.frm.glob]; exact n1.keeps I.base) e1 ?_) hd)
 refine callWith_function (o:=o) (fd:=fd) (CN hns ?_)
 rw [DL (EP hns).1]
 refine B2 hw fun x ex hx=>ob11 (FV ex) fun p' ex=>?_
 rw [ex,eq_of_beq hx]
 ·clear ex hx
  have wv:∃ wa,ρ[n]?=some wa∧∀ (Q:Value→Shared→Prop),Q (.ref wa) s→wpAny (model prog w) A (eval (.Name "well" p') F.env) Q E s:=by
   rcases I.kind _ _ hn with k | k | k
   ·refine ob12 I.ns fun m h1 h2=>?_
    (refine ob12 (h2 _ _ hn k) fun v e1 ζ1=>?_; refine ob12 ζ1 ?_; clear ζ1; intro wa e2 e3)
    subst e3
    exact ⟨wa,e2,fun Q hq=>wpAny_Name (wpAny_loadName_local hF.frm.kind k h1 e1 hq)⟩
   ·(refine ob23 (I.cell _ _ hn (.inl k)) fun c v e1 e2 ζ1=>?_; refine ob12 ζ1 ?_; clear ζ1; intro wa e3 e4)
    subst e4
    exact ⟨wa,e3,fun Q hq=>wpAny_Name (wpAny_loadName_cell hF.frm.kind k e1 e2 hq)⟩
   ·(refine ob23 (I.cell _ _ hn (.inr k)) fun c v e1 e2 ζ1=>?_; refine ob12 ζ1 ?_; clear ζ1; intro wa e3 e4)
    subst e4
    exact ⟨wa,e3,fun Q hq=>wpAny_Name (wpAny_loadName_free hF.frm.kind k e1 e2 hq)⟩
  (refine ob12 wv ?_; clear wv; intro wa hwa hw)
  show wpAny _ _ (spliced ((false,eval (.Name "well" p') F.env) :: backTo pos (starEach rest F.env))) _ _ _
  refine spliced_cons (hw _ ?_)
  refine GH hev pos rest sl ρ s I _ X _ _ (BJ h) (fun vs s₁ h₁=>?_) hE
  (refine ob34 h₁ ?_; clear h₁; intro o₁ l ρ₁ I₁ hl ev₁ hp)
  refine ⟨⟨I₁.base a o e2,e3⟩,?_⟩
  refine ob25 (RI I₁ hl (BJ hp)) fun o₂ l' I₂ hl' ev₂ hpl hp=>?_
  dsimp only at hp
  have hwa₂:ρ₁[n]?=some wa:=ev₂.ext _ _ (ev₁.ext _ _ hwa)
  ·refine IR hp fun c hit hp=>IP hp fun items ec hp=>ob02 (AA hp) fun hpi hp=>?_
   rw [ec] at hit
   ·have hp:=NoExc.holds (hne _ _) (R.holds_bind hp)
    refine ob22 (I₂.slots n wa _ hwa₂ hit) fun ws m h3 h4=>?_
    refine hfn (Bad F (o₂.getD (o₁.getD sl)) ρ₁) (Around1 F) s₁ A wa ws m items vs l' _ Q E I₂.base I₂.low Around1.bad I₂.around1 hF.frm.frames (r.less hfd) (.inr (.inr (.inr ⟨n,_,hit,hwa₂⟩))) (I₂.own_around1 ⟨n,_,hit,hwa₂⟩) h3 (CW _ _ hpi h4) (CW _ _ hpl hl') hp fun v s' li ws' m' av kp hg hd ho hget hli hv hP=>hQ _ _ (QE.after ev₁ (QE.after ev₂ ?_))
    refine ob02 (I₂.storeF (c':=.lst li) hit hwa₂ kp hg hd ho ⟨ws',m',hget,Z3 hli⟩) fun I₃ ev₃=>?_
    exact ⟨some _,av,ρ₁,I₃,by rw [Option.getD_some,I6 hit]; exact V5 hv,ev₃,hP⟩
theorem FW {ev:Expr→SL→RE} (hev:Ok prog w EO F env A ev) (I:Inv prog w F env sl ρ s) {o:Expr} {m:Str} {k:MK} {args:List Expr} {apos pos:Pos} (hm:mkOf m=some k) (hl:(apos.endLine==pos.line)=true) (ho:Q4 o=true) (hlen:args.length<20) (hns:CG args=true)
  {argsR:SL→RL} (hargs:∀ sl ρ s,Inv prog w F env sl ρ s→TriL prog w EO F env sl ρ s A (argsR sl) (spliced (backTo pos (starEach args F.env)))) :
  Tri prog w EO F env sl ρ s A (seqE (ev o sl) sl fun a sl=>AO (onK k sl a) (seqLE (argsR sl) sl fun l sl=>Q2 k sl a l)) (eval (.Call (.Attribute o m apos) args [] pos) F.env):=fun P X Q E h hQ hE=>by
 refine ob03 (Z0 hm) fun f1 f2 f3=>?_
 have hbase:attributeBase o m F.env (eval o F.env)=eval o F.env:=by
  cases o with
  | Call f a k p=>cases f<;>first | rfl | exact nomatch ho
  | _=>rfl
 have hp:=BA (env:=F.env) (pos:=pos) hns
 refine wpAny_Call_method_late hbase ?_ hl rfl ?_
 ·rw [hp.2]
  simp only [show keywordEach [] F.env=[] from rfl,backToKw,List.map_nil,List.all_nil,Bool.true_and,List.length_nil,Nat.add_zero,List.isEmpty_nil,if_true,decide_eq_true_eq]
  omega
 refine hev o sl ρ s I _ X _ _ (BB h) (fun v s₁ h₁=>?_) hE
 (refine ob34 h₁ ?_; clear h₁; intro o₁ a ρ₁ I₁ hv ev₁ hp₁)
 refine ob02 (AA hp₁) fun hz hp₁=>?_
 refine ob02 (Z1 I₁ hz hv) fun t1 t2=>?_
 refine ⟨k.ty,k.id,f1,f2,f3,t1,t2,?_⟩
 refine callWith_builtin hp.1 (CN hns (hargs _ ρ₁ s₁ I₁ _ X _ _ (BJ hp₁) (fun vs s₂ h₂=>?_) (hE.after ev₁)))
 (refine ob34 h₂ ?_; clear h₂; intro o₂ l ρ₂ I₂ hl₂ ev₂ hp₂)
 exact N8 _ _ I₂ (ev₂.has hv) hl₂ hp₂ fun v' s' hq=>hQ _ _ (QE.after ev₁ (QE.after ev₂ hq))
end
end Mine
end
section
open PySem.SeqAt
namespace Mine
section
variable {prog:Program} {w:World} {EO:Value→Shared→Prop} {F:Frm} {env:AEnv} {sl:SL} {ρ:List Addr} {s:Shared} {A:Around} {d:Nat}
theorem MG {α:Type} {x y:α}:∀ {l:List α} {n:Nat},(l++[x])[n]?=some y→l[n]?=some y∨(n=l.length∧x=y)
 | [],0,h=>.inr ⟨rfl,Option.some.inj h⟩
 | [],_+1,h=>A0 h
 | _ :: _,0,h=>.inl h
 | _ :: l,n+1,h=>(MG (l:=l) (n:=n) h).imp id fun q=>⟨congrArg Nat.succ q.1,q.2⟩
theorem acK {α β:Type} {l:List α} {m:List β} {n:Nat} {x:β} (hl:l.length=m.length) (h:n=l.length) (k:m[n]?=some x):False:=by
 rw [h,hl] at k
 exact absurd (List.getElem?_eq_some_iff.mp k).1 (Nat.lt_irrefl _)
theorem FF {d:Addr} (n:Nat) (a:Addr) (h:ρ[n]?=some a):(ρ++[d])[n]?=some a:=by
 rw [List.getElem?_append_left (List.getElem?_eq_some_iff.mp h).1]; exact h
theorem RJ {c:AV} {d b:Addr} {σ:Slot} {n:Nat} (hl:ρ.length=sl.length) (h1:(sl++[Slot.own c])[n]?=some σ) (h2:(ρ++[d])[n]?=some b):(sl[n]?=some σ∧ρ[n]?=some b)∨(n=sl.length∧Slot.own c=σ∧d=b):=
 (MG h1).elim (fun k1=>(MG h2).elim (fun k2=>.inl ⟨k1,k2⟩) fun k2=>(acK hl k2.1 k1).elim) fun k1=>(MG h2).elim (fun k2=>(acK hl.symm k1.1 k2).elim) fun k2=>.inr ⟨k1.1,k1.2,k2.2⟩
theorem V9 {c:AV} {d b:Addr} (hl:ρ.length=sl.length):OwnA (sl++[Slot.own c]) (ρ++[d]) b↔OwnA sl ρ b∨b=d:=by
 constructor
 ·exact fun h=>ob22 h fun n e h1 h2=>(RJ hl h1 h2).elim (fun k=>.inl ⟨n,e,k.1,k.2⟩) fun k=>.inr k.2.2.symm
 ·rintro (⟨n,e,h1,h2⟩ | e)
  ·exact ⟨n,e,by rw [List.getElem?_append_left (List.getElem?_eq_some_iff.mp h1).1]; exact h1,FF n b h2⟩
  ·exact ⟨sl.length,c,by simp,by rw [← hl,e]; simp⟩
theorem WA {c:AV} {d b:Addr} (hl:ρ.length=sl.length):Mut F (sl++[Slot.own c]) (ρ++[d]) b↔Mut F sl ρ b∨b=d:=by
 unfold Mut
 rw [V9 hl]
 constructor
 ·rintro (h | h | h | h)
  ·exact .inl (.inl h)
  ·exact .inl (.inr (.inl h))
  ·exact .inl (.inr (.inr h))
  ·exact .inr h
 ·rintro ((h | h | h) | h)
  ·exact .inl h
  ·exact .inr (.inl h)
  ·exact .inr (.inr (.inl h))
  ·exact .inr (.inr (.inr h))
theorem WB {c:AV} {d b:Addr} (hl:ρ.length=sl.length):Bad F (sl++[Slot.own c]) (ρ++[d]) b↔Bad (F.hide d) sl ρ b:=by
 rw [bad_hide]
 unfold Bad
 rw [WA hl,or_assoc]
theorem WC {c:AV} {d:Addr} {h:Heap} (hl:ρ.length=sl.length):Vw F (sl++[Slot.own c]) (ρ++[d]) h=Vw (F.hide d) sl ρ h:=by
 funext a o
 unfold Vw
 rw [WB hl]
theorem Inv.adopt {d:Addr} {c:AV} (I:Inv prog w (F.hide d) env sl ρ s) {s':Shared} (keep:∀ a o,a≠d→s.heap.get? a=some o→s'.heap.get? a=some o) (hX:¬ F.X d)
  (hc:OwnAt prog w (Vw (F.hide d) sl ρ s'.heap) (ρ++[d]) s'.heap d c):Inv prog w F env (sl++[Slot.own c]) (ρ++[d]) s':=by
 have hl:=I.len
 have hbd:Bad (F.hide d) sl ρ d:=bad_hide.mpr (.inr rfl)
 have hv:∀ b o,Vw (F.hide d) sl ρ s.heap b o→Vw (F.hide d) sl ρ s'.heap b o:=fun b o h=>⟨keep b o (fun e=>h.2.1 (bad_hide.mpr (.inr e))) h.1,h.2⟩
 have ned:∀ a,Mut F sl ρ a→a≠d:=fun a h e=>by
  subst e
  rcases h with h | ⟨x,h⟩ | h
  ·exact I.locX.1 (.inr h.symm)
  ·exact I.locX.2 x _ h (.inr rfl)
  ·exact (I.ownNe _ h).2.2 (.inr rfl)
 refine ⟨fun a o e=>keep a o (fun q=>by subst q; have e':F.base.get? a=none:=(I.low a hbd).1; rw [e'] at e; exact nomatch e) (I.base a o e),I.sm,fun a h=>?_,?_,?_,I.kind,?_,by simp [hl],?_,?_,fun a h=>?_,⟨fun q=>I.locX.1 (.inl q),fun x c e q=>I.locX.2 x c e (.inl q)⟩,fun a h=>ob12 (I.frs a h) fun o e q=>⟨o,keep a o (fun z=>hX (z ▸ F.frX a h)) e,q⟩⟩
 ·have h:=(WB hl).mp h
  refine ⟨(I.low a h).1,?_⟩
  refine ob11 ((I.low a h).2) fun o e=>?_
  by_cases q:a=d
  ·subst q; exact hc.live
  ·exact ⟨o,keep a o q e⟩
 ·rw [WC hl]
  refine ob12 I.ns fun m h1 h2=>?_
  exact ⟨m,h1.at fun o e=>keep _ o (ned _ (.inl rfl)) e,fun x av e k=>ob12 (h2 x av e k) fun v e1 e2=>⟨v,e1,Has.mono prog w hv FF av v e2⟩⟩
 ·rw [WC hl]
  intro x av e k
  (refine ob23 (I.cell x av e k) fun q v e1 ζ1 e4=>?_; refine ob12 ζ1 ?_; clear ζ1; intro o e2 e3)
  exact ⟨q,v,e1,⟨o,keep q o (ned q (.inr (.inl ⟨x,AF e1⟩))) e2,e3⟩,Has.mono prog w hv FF av v e4⟩
 ·intro x c e
  (refine ob02 (I.cells x c e) fun ζ1 h3=>?_; refine ob22 ζ1 ?_; clear ζ1; intro ov o h1 h2)
  exact ⟨⟨ov,o,keep c o (ned c (.inr (.inl ⟨x,e⟩))) h1,h2⟩,h3⟩
 ·rw [WC hl]
  intro n a σ e1 e2
  rcases RJ hl e2 e1 with ⟨k2,k1⟩ | ⟨_,k2,k1⟩
  ·have k:=I.slots n a σ k1 k2
   cases σ with
   | frz t=>exact Has.mono prog w hv FF t _ k
   | own c'=>
    exact SlotAt.calm (σ:=.own c') hv FF (fun o ho=>keep a o (ned a (.inr (.inr ⟨n,c',k2,k1⟩))) ho) k
  ·rw [← k1,← k2]; exact hc
 ·intro n m a c₁ c₂ h1 h2 h3 h4
  rcases RJ hl h1 h3 with ⟨k1,k2⟩ | ⟨k1,_,k2⟩<;>rcases RJ hl h2 h4 with ⟨k3,k4⟩ | ⟨k3,_,k4⟩
  ·exact I.apart n m a _ _ k1 k3 k2 k4
  ·exact absurd k4.symm (ned a (.inr (.inr ⟨n,_,k1,k2⟩)))
  ·exact absurd k2.symm (ned a (.inr (.inr ⟨m,_,k3,k4⟩)))
  ·exact k1.trans k3.symm
 ·rcases (V9 hl).mp h with h | e
  ·refine ob03 (I.ownNe a h) fun h1 h2 h3=>?_
   exact ⟨h1,h2,fun q=>h3 (.inl q)⟩
  ·subst e
   exact ⟨fun q=>I.locX.1 (.inr q.symm),fun x q=>I.locX.2 x _ q (.inr rfl),hX⟩
theorem Evo.adopt {d:Addr} {c:AV} {sl₁:SL} {ρ₁:List Addr} {s₁ s':Shared} (x:Evo F sl ρ s sl₁ ρ₁ s₁) (hl:ρ₁.length=sl₁.length) (hd:s.heap.get? d=none) (keep:∀ a o,a≠d→s₁.heap.get? a=some o→s'.heap.get? a=some o) (hg:s'.gens=s₁.gens) (hdr:s'.drawn=s₁.drawn) (ho:s'.os=s₁.os) :
  Evo F sl ρ s (sl₁++[Slot.own c]) (ρ₁++[d]) s':=
 ⟨fun a o e hm=>(x.keep a o e hm).trans fun o' e'=>.of (keep a o' (fun q=>by subst q; rw [hd] at e; exact nomatch e) e'),hg.trans x.gens,hdr.trans x.drawn,ho.trans x.os,fun n a e=>FF n a (x.ext n a e),
  fun a h=>((WA hl).mp h).elim (x.mu a) fun e=>by subst e; exact .inr hd,
  fun a o e=>ob11 (x.live a o e) fun o' e'=>⟨o',keep a o' (fun q=>by subst q; rw [hd] at e; exact nomatch e) e'⟩⟩
theorem Inv.fresh (I:Inv prog w F env sl ρ s) {d:Addr} (hd:s.heap.get? d=none):¬ Bad F sl ρ d:=fun q=>by
 (refine ob02 (I.low d q) fun _ ζ1=>?_; refine ob11 ζ1 ?_; clear ζ1; intro o e)
 rw [hd] at e; exact nomatch e
theorem PU {ev:Expr→SL→RE} (hev:Ok prog w EO F env A ev) (I:Inv prog w F env sl ρ s) {elts:List Expr} {pos:Pos} :
  Tri prog w EO F env sl ρ s A (seqLE (evL ev elts sl) sl fun l sl=>AO (Nat.blt l.length 16777216) (.ret (some (sl++[Slot.own (.lst l)]),.loc sl.length))) (eval (.List elts pos) F.env):=fun P X Q E h hQ hE=>by
 rw [arm_eval_List]
 refine wpAny_bind (wpAny_standAt (wpAny_bind (GH hev pos elts sl ρ s I _ X _ _ (BJ h) (fun vs s₁ h₁=>?_) hE)))
 (refine ob34 h₁ ?_; clear h₁; intro o l ρ₁ I₁ hl ev₁ hp)
 refine ob02 (AA hp) fun hz hp=>?_
 have hb:l.length<16777216:=BR hz
 have hn:=hl.length
 refine wpAny_newList (hQ _ _ ?_) (BM (by omega))
 let s₂:Shared:={ s₁ with heap:=s₁.heap.push { cls:=.type "list",data:=.seq vs.toArray } }
 have g:Grow s₁ s₂:=Grow.push s₁ _
 have hg:s₂.heap.get? s₁.heap.objs.size=some (lstO vs 0):=Heap.get?_push_size _ rfl
 have I₂:=I₁.hide (s':=s₂) g.keep (AJ _) ⟨_,hg⟩
 have hvis:∀ b ob,Vw F (o.getD sl) ρ₁ s₁.heap b ob→Vw (F.hide s₁.heap.objs.size) (o.getD sl) ρ₁ s₂.heap b ob:=fun b ob hb=>by
  have hne:b≠s₁.heap.objs.size:=fun e=>by
   have h1:=hb.1
   rw [e,AJ] at h1; exact nomatch h1
  exact ⟨g.keep b ob hb.1,fun q=>(bad_hide.mp q).elim hb.2.1 hne,hb.2.2⟩
 have I₃:=I₂.adopt (c:=.lst l) (s':=s₂) (fun _ _ _ h=>h) (fun q=>I₁.fresh (AJ _) (.inl q)) ⟨vs,0,hg,HasL.mono prog w hvis FF _ _ hl⟩
 exact QE.after ev₁ ⟨some _,.loc (o.getD sl).length,ρ₁++[s₁.heap.objs.size],I₃,⟨_,by rw [← I₁.len]; simp,rfl⟩,Evo.adopt (.refl ..) I₁.len (AJ _) (fun a ob _ h=>g.keep a ob h) rfl rfl rfl,hp⟩
theorem PV {ev:Expr→SL→RE} (hev:∀ d,Ok prog w EO (F.hide d) env A ev) (I:Inv prog w F env sl ρ s) {keys:List (Option Expr)} {values:List Expr} {pos:Pos} :
  Tri prog w EO F env sl ρ s A (match LZ keys,decide (keys.length=values.length∧keys.length≤15) with
  | some ks,true=>(match decide ks.Nodup with
   | true=>seqLE (evL ev values sl) sl fun l sl=>.ret (some (sl++[Slot.own (.dS ks l)]),.loc sl.length)
   | false=>.fail)
  | _,_=>.fail) (eval (.Dict keys values pos) F.env):=fun P X Q E h hQ hE=>by
 split at h
 ·rename_i ks hk hd
  refine ob02 (of_decide_eq_true hd) fun hl hlen=>?_
  split at h
  ·rename_i hnd
   have hnd:=of_decide_eq_true hnd
   refine ob02 (GZ hk) fun hall hkl=>?_
   let D:=s.heap.objs.size
   let s₀:Shared:={ s with heap:=s.heap.push { cls:=.type "dict",data:=.dict #[] } }
   have hnew:s.heap.get? D=none:=AJ _
   have hobj:s₀.heap.get? D=some { cls:=.type "dict",data:=.dict #[] }:=Heap.get?_push_size _ rfl
   have g:Grow s s₀:=Grow.push s { cls:=.type "dict",data:=.dict #[] }
   have Ip:Inv prog w (F.hide D) env sl ρ s₀:=I.hide g.keep hnew ⟨_,hobj⟩
   have fx:¬ F.X D:=fun q=>I.fresh hnew (.inl q)
   by_cases h0:keys=[]
   ·subst h0
    have hv:values=[]:=List.length_eq_zero_iff.mp hl.symm
    subst hv
    have hk:some []=some ks:=hk
    injection hk with hk; subst hk
    refine ob12 (Heap.dictOf_iff.mp (Heap.DictOf.new (knd:=PySem.strKind prog w) s.heap)) fun o h1 h2=>?_
    have I₃:=Ip.adopt (c:=.dS [] []) (s':=s₀) (fun _ _ _ h=>h) fx ⟨o,[],h1,h2,rfl,rfl⟩
    exact wpAny_Dict_empty (hQ _ _ ⟨some _,.loc sl.length,ρ++[D],I₃,⟨D,by rw [← I.len]; simp,rfl⟩,Evo.adopt (.refl ..) I.len hnew (fun a ob _ h=>g.keep a ob h) rfl rfl rfl,h⟩)
   ·have nm:¬ Mut F sl ρ D:=fun q=>I.fresh hnew (.inr q)
    have nf:¬ F.fr D:=I.nfr hnew
    refine wpAny_Dict_walk (knd:=PySem.strKind prog w) hall hl h0 hlen ?_
    refine FE (hev D) pos keys values ks sl ρ _ hk hl Ip _ X _ _ (BJ h) (fun prs vs s₁ h₁ hc hn=>?_) ?_
    ·(refine ob34 h₁ ?_; clear h₁; intro o l ρ₁ I₁ hvs ev₁ hp)
     have hdo:s₁.heap.get? D=some { cls:=.type "dict",data:=.dict #[] }:=(ev₁.keep D _ hobj nm).exact nf
     refine ⟨_,hc,?_,fun h' hd' hsb=>?_⟩
     ·refine ob12 (Heap.dictOf_iff.mp (Heap.DictOf.new (knd:=PySem.strKind prog w) s.heap)) fun o' e1 e2=>?_
      have e1:s₀.heap.get? D=some o':=e1
      refine Heap.dictOf_iff.mpr ⟨o',?_,e2⟩
      rw [hdo,← hobj,← e1]
     ·rw [merged_nil_of_nodup _ (by rw [List.map_fst_zip (by omega)]; exact hnd)] at hd'
      refine ob12 (Heap.dictOf_iff.mp hd') fun o' e1 e2=>?_
      have kp:=BS hsb
      have hvis:∀ b ob,Vw (F.hide D) (o.getD sl) ρ₁ s₁.heap b ob→Vw (F.hide D) (o.getD sl) ρ₁ h' b ob:=fun b ob hb=>⟨kp b ob (fun e=>hb.2.1 (bad_hide.mpr (.inr e))) hb.1,hb.2⟩
      have I₃:=I₁.adopt (c:=.dS ks l) (s':={ s₁ with heap:=h',toks:=s₁.toks+prs.length }) kp fx ⟨o',vs,e1,e2,hn,HasL.mono prog w hvis FF _ _ hvs⟩
      refine hQ _ _ ⟨some ((o.getD sl)++[Slot.own (.dS ks l)]),.loc (o.getD sl).length,ρ₁++[D],I₃,⟨D,by rw [← I₁.len]; simp,rfl⟩,Evo.adopt (ev₁.unhide g) I₁.len hnew kp rfl rfl rfl,?_⟩
      have hp:P (B9 o (some ((o.getD sl)++[Slot.own (.dS ks l)])),.loc (o.getD sl).length):=hp
      cases o<;>exact hp
    ·intro hX e s' p f he
     exact hE hX e s' (p.unhide g) (fun a ha=>g.dead (f a ha)) he
  ·exact h.elim
 ·exact h.elim
theorem RK {ev:Expr→SL→RE} (hev:Ok prog w EO F env A ev) (hevH:∀ d,Ok prog w EO (F.hide d) env A ev) (I:Inv prog w F env sl ρ s) (e:Expr):Tri prog w EO F env sl ρ s A (VI ev e sl) (eval e F.env):=by
 cases e<;>first
  | exact PU hev I
  | exact PV hevH I
  | exact hev _ _ _ _ I
theorem OE {ev:Expr→SL→RE} (hev:Ok prog w EO F env A ev) (hevH:∀ d,Ok prog w EO (F.hide d) env A ev) (pos:Pos) (es:List Expr) (sl:SL) (ρ:List Addr) (s:Shared) (I:Inv prog w F env sl ρ s):TriL prog w EO F env sl ρ s A (NY ev es sl) (spliced (backTo pos (starEach es F.env))):=
 GH (ev:=VI ev) (fun e _ _ _ I=>RK hev hevH I e) pos es sl ρ s I
end
end Mine
end
section
open PySem.SeqAt
namespace Mine
section
variable {prog:Program} {w:World} {EO:Value→Shared→Prop} {F:Frm} {env:AEnv} {sl:SL} {ρ:List Addr} {s:Shared} {A:Around} {d:Nat}
def Tame (o:Obj):Prop:=∀ n,o.cls=.type n→(["enumerate","zip","dict_itemiterator","dict_reverseitemiterator","odict_iterator","itertools.zip_longest","itertools.pairwise"]:List String).contains n=false
theorem H3 {o:Obj} {n:String} (h:o.cls=.type n) (hn:(["enumerate","zip","dict_itemiterator","dict_reverseitemiterator","odict_iterator","itertools.zip_longest","itertools.pairwise"]:List String).contains n=false):Tame o:=fun m q=>by
 rw [h] at q
 injection q with q
 subst q; exact hn
structure IterAt (prog:Program) (w:World) (A:Around) (F:Frm) (sl:SL) (ρ:List Addr) (s₀ s₁:Shared) (I:Addr) (items:List AV) (fp:List Addr) (n:Nat) (P:Nat→Value→Prop) (St:Nat→Heap→Prop):Prop where
 new:s₀.heap.get? I=none
 live:∃ o,s₁.heap.get? I=some o
 stLive:∀ i h,St i h→∃ o,h.get? I=some o∧Tame o
 grow:Grow s₀ s₁
 walks:Walks prog w A I fp [I] n P St
 st:St 0 s₁.heap
 len:n=items.length
 fp:∀ b∈fp,b=I∨∃ o,Vw F sl ρ s₀.heap b o
 has:∀ i v,i<n→P i v→∃ av,items[i]?=some av∧Has prog w (Vw F sl ρ s₀.heap) ρ av v
theorem HE (c:Int):∀ (n:Nat) (a:Int),(H9 a c n).length=n
 | 0,_=>rfl
 | n+1,a=>by simp [H9,HE c n]
theorem LE (c:Int):∀ (n:Nat) (a:Int) (i:Nat),i<n→(H9 a c n)[i]?=some (a+i*c)
 | n+1,a,0,_=>by simp [H9]
 | n+1,a,i+1,h=>by
  simp only [H9,List.getElem?_cons_succ]
  rw [LE c n (a+c) i (by omega)]
  congr 1; push_cast; rw [Int.add_mul]; omega
theorem WD {x a:Addr} {V:Vis} {o:Obj} (hv:V a o):∀ b∈[x,a],b=x∨∃ o,V b o:=fun _ hb=>
 (List.mem_cons.mp hb).elim .inl fun h=>.inr ⟨o,(List.mem_singleton.mp h) ▸ hv⟩
theorem WE {V:Vis} {l:List AV} {vs:List Value} {n:Nat} (hl:HasL prog w V ρ l vs):∀ i v,i<n→vs.toArray[i]?=some v→∃ av,l[i]?=some av∧Has prog w V ρ av v:=fun i v _ e=>by
 have e:vs[i]?=some v:=by rw [← e]; exact List.getElem?_toArray.symm
 have hlt:i<vs.length:=(List.getElem?_eq_some_iff.mp e).1
 rw [hl.length] at hlt
 refine ob12 (hl.get (List.getElem?_eq_getElem hlt)) fun u hu hh=>?_
 rw [e] at hu
 exact ⟨_,List.getElem?_eq_getElem hlt,Option.some.inj hu ▸ hh⟩
theorem OF (hh:A.handled=none) {l:List AV} {xv:Value} {a:Addr} {vs:List Value} {n:Nat} (e:xv=.ref a) (hv:Vw F sl ρ s.heap a (lstO vs n)) (hl:HasL prog w (Vw F sl ρ s.heap) ρ l vs) (ne:∀ {a:Addr} {o:Obj},s.heap.get? a=some o→a≠s.heap.objs.size) {Q E:Value→Shared→Prop}
  (hQ:∀ J s₁ fp n P St,IterAt prog w A F sl ρ s s₁ J l fp n P St→Q (.ref J) s₁):wpAny (model prog w) A (pyIter xv) Q E s:=by
 have ht:s.heap.IsList a vs.toArray:=⟨_,hv.1,rfl,n,rfl⟩
 rw [e]
 exact wpAny_pyIter_list ht (hQ _ _ _ _ _ _ ⟨AJ _,⟨_,Heap.get?_push_size _ rfl⟩,fun i h st=>(ob13 st.1 fun o e hc _=>⟨o,e,H3 hc (by decide)⟩),Grow.push _ _,Walks.list hh _ a (ne hv.1) vs.toArray,⟨⟨_,Heap.get?_push_size _ rfl,rfl,rfl⟩,ht.push _⟩,by rw [List.size_toArray,hl.length],WD hv,WE hl⟩)
theorem OG (hh:A.handled=none) (I:Inv prog w F env sl ρ s) {src:AV} {xv:Value} {items:List AV} (hi:SH src=some items) (hx:Has prog w (Vw F sl ρ s.heap) ρ src xv) {Q E:Value→Shared→Prop}
  (hQ:∀ J s₁ fp n P St,IterAt prog w A F sl ρ s s₁ J items fp n P St→Q (.ref J) s₁):wpAny (model prog w) A (pyIter xv) Q E s:=by
 have ne:∀ {a:Addr} {o:Obj},s.heap.get? a=some o→a≠s.heap.objs.size:=fun e q=>Nat.lt_irrefl _ (q ▸ Heap.lt_size e)
 cases src with
 | «tup» l=>
  rw [← Option.some.inj (show some l=some items from hi)] at hQ
  (refine ob33 hx ?_; clear hx; intro a vs n ζ1 hv hl; subst ζ1)
  have ht:s.heap.IsTuple a vs.toArray:=⟨_,hv.1,rfl,n,rfl⟩
  exact wpAny_pyIter_tuple ht (hQ _ _ _ _ _ _ ⟨AJ _,⟨_,Heap.get?_push_size _ rfl⟩,fun i h st=>(ob13 st.1 fun o e hc _=>⟨o,e,H3 hc (by decide)⟩),Grow.push _ _,Walks.tuple hh _ a (ne hv.1) vs.toArray,⟨⟨_,Heap.get?_push_size _ rfl,rfl,rfl⟩,ht.push _⟩,by rw [List.size_toArray,hl.length],WD hv,WE hl⟩)
 | «lst» l=>
  rw [← Option.some.inj (show some l=some items from hi)] at hQ
  exact ob33 hx fun a vs n e hv hl=>OF hh e hv hl ne hQ
 | «ints» l=>
  rw [← Option.some.inj (show some (l.map .sym)=some items from hi)] at hQ
  exact ob33 hx fun a vs n e hv hl=>OF hh e hv hl.hasL ne hQ
 | str x=>
  have hi:=Option.some.inj (show some (HW x)=some items from hi)
  subst hi
  (refine ob11 hx ?_; clear hx; intro t ζ1; subst ζ1)
  have sg:∀ i v,i<x.cps.size→SignAt x i v→∃ av,(HW x)[i]?=some av∧Has prog w (Vw F sl ρ s.heap) ρ av v:=fun i v _ ζ1=>ob22 ζ1 fun c u e1 e2=>by
   refine ⟨.str ⟨#[c]⟩,?_,u,e2⟩
   simp only [HW,List.getElem?_map,Array.getElem?_toList,e1]; rfl
  have fpk:∀ b∈[s.heap.objs.size],b=s.heap.objs.size∨∃ o,Vw F sl ρ s.heap b o:=fun b hb=>.inl (by simpa using hb)
  cases ha:x.cps.all (·<128) with
  | true=>exact wpAny_pyIter_ascii ha (hQ _ _ _ _ _ _ ⟨AJ _,⟨_,Heap.get?_push_size _ rfl⟩,fun i h st=>(ob13 st fun o e hc _=>⟨o,e,H3 hc (by decide)⟩),Grow.push _ _,Walks.strAscii hh _ x t,⟨_,Heap.get?_push_size _ rfl,rfl,rfl⟩,by simp [HW],fpk,sg⟩)
  | false=>exact wpAny_pyIter_wide ha (hQ _ _ _ _ _ _ ⟨AJ _,⟨_,Heap.get?_push_size _ rfl⟩,fun i h st=>(ob13 st fun o e hc _=>⟨o,e,H3 hc (by decide)⟩),Grow.push _ _,Walks.strWide hh _ x t,⟨_,Heap.get?_push_size _ rfl,rfl,rfl⟩,by simp [HW],fpk,sg⟩)
 | dS ks l=>
  have hi:=Option.some.inj (show some (ks.map .str)=some items from hi)
  subst hi
  (refine ob35 hx ?_; clear hx; intro a o vs ζ1 hv ζ2 hl hh'; subst ζ1; refine ob25 ζ2 ?_; clear ζ2; intro es ep h1 h2 h3 h4 h5)
  have hd:s.heap.DictAt (PySem.strKind prog w) a (ks.zip vs) ep:=⟨o,es,hv.1,h1,h2,h3,h4,h5⟩
  refine wpAny_pyIter_dict hv.2.2 hd (hQ _ _ _ _ _ _ ⟨AJ _,⟨_,Heap.get?_push_size _ rfl⟩,fun i h st=>(ob13 st.1 fun o e hc _=>⟨o,e,H3 hc (by decide)⟩),Grow.push _ _,Walks.dictKeys hh _ a (ne hv.1) (ks.zip vs) ep,⟨⟨_,Heap.get?_push_size _ rfl,rfl,rfl⟩,hd.at' fun o e=>Heap.get?_push_of_some _ e⟩,by simp [hl],?_,?_⟩)
  ·exact WD hv
  ·rintro i v _ ⟨k,x,e,hk⟩
   (refine ob11 (Value.isStrOf_shape hk) fun t ζ1=>?_; subst ζ1)
   refine ⟨.str k,?_,t,rfl⟩
   have e':ks[i]?=some k:=by
    rw [List.getElem?_zip_eq_some] at e
    exact e.1
   rw [List.getElem?_map,e']; rfl
 | rng a b c=>
  refine MA (show (bif VF a b c then some ((rngL a b c).map .num) else none)=some items from hi) (fun hr hi=>?_) A0
  have hi:=Option.some.inj hi
  subst hi
  (refine ob42 hx ?_; clear hx; intro p t u x ζ1 hv; subst ζ1)
  refine ob03 (N6 hr) fun h1 h2 h3=>?_
  refine wpAny_pyIter_range (c:=c) hv.1 h1 (hQ _ _ _ _ _ _ ⟨AJ _,⟨_,Heap.get?_push_size _ rfl⟩,fun i h st=>⟨_,st,H3 rfl (by decide)⟩,Grow.push _ _,Walks.range hh _ a c (Builtin.Range.rangeSize a b c).toNat,?_,by simp [rngL,HE],?_,?_⟩)
  ·show IsRangeIter _ _ _ _ _
   have e1:a+((0:Nat):Int)*c=a:=by simp
   have e2:((Builtin.Range.rangeSize a b c).toNat:Int) - ((0:Nat):Int)=Builtin.Range.rangeSize a b c:=by rw [← h2]; simp
   rw [e1,e2]
   exact Heap.get?_push_size _ rfl
  ·exact fun b hb=>.inl (by simpa using hb)
  ·rintro i v hlt ⟨t',e⟩
   refine ⟨.num (a+i*c),?_,t',e⟩
   rw [List.getElem?_map,rngL,LE c _ a i hlt]; rfl
 | _=>exact A0 hi
end
end Mine
end
section
open PySem.SeqAt
namespace Mine
section
variable {prog:Program} {w:World} {EO:Value→Shared→Prop} {F:Frm} {env:AEnv} {sl:SL} {ρ:List Addr} {s:Shared} {A:Around} {d:Nat}
theorem EQ {x y:Str} (h:(y==x)=false):∀ (l:AEnv),(l.filter fun p=>!(p.1==x)).lookup y=l.lookup y
 | []=>rfl
 | (z,v) :: l=>by
  rw [List.filter_cons]
  cases e:z==x with
  | true=>
   have e':(y==z)=false:=by
    have:=eq_of_beq e
    subst this; exact h
   simp only [Bool.not_true,Bool.false_eq_true,if_false,List.lookup_cons,e']
   exact EQ h l
  | false=>
   simp only [Bool.not_false,if_true,List.lookup_cons]
   rw [EQ h l]
theorem AY (x y:Str) (v:AV) (l:AEnv):(A8 x v l).lookup y=if y=x then some v else l.lookup y:=by
 unfold A8
 rw [List.lookup_cons]
 by_cases e:y=x
 ·subst e; simp
 ·have h:(y==x)=false:=beq_eq_false_iff_ne.mpr e
  rw [h,if_neg e]
  exact EQ h l
theorem Inv.rebind (I:Inv prog w F env sl ρ s) {b₀:Addr} (hb:b₀=F.env.locals∨∃ x,(x,b₀)∈F.env.cells) {s':Shared} (keep:∀ a o,a≠b₀→s.heap.get? a=some o→s'.heap.get? a=some o) (live:∃ o,s'.heap.get? b₀=some o)
  (hg:s'.gens=s.gens) (hd:s'.drawn=s.drawn) (ho:s'.os=s.os) {env':AEnv}
  (ns:(∀ a o,Vw F sl ρ s.heap a o→Vw F sl ρ s'.heap a o)→∃ m,s'.heap.Ns F.env.locals m∧∀ x av,env'.lookup x=some av→F.env.kindOf x=some .local→∃ v,m x=some v∧Has prog w (Vw F sl ρ s'.heap) ρ av v)
  (cell:(∀ a o,Vw F sl ρ s.heap a o→Vw F sl ρ s'.heap a o)→∀ x av,env'.lookup x=some av→F.env.kindOf x=some .cell∨F.env.kindOf x=some .free→∃ c v,F.env.cells.lookup x=some c∧s'.heap.IsCell c (some v)∧Has prog w (Vw F sl ρ s'.heap) ρ av v)
  (kind:∀ x av,env'.lookup x=some av→F.env.kindOf x=some .local∨F.env.kindOf x=some .cell∨F.env.kindOf x=some .free)
  (cells:∀ x c,(x,c)∈F.env.cells→∃ ov,s'.heap.IsCell c ov):Inv prog w F env' sl ρ s'∧Evo F sl ρ s sl ρ s':=by
 have hm:Mut F sl ρ b₀:=hb.elim .inl fun h=>.inr (.inl h)
 have hv:∀ a o,Vw F sl ρ s.heap a o→Vw F sl ρ s'.heap a o:=fun a o h=>⟨keep a o (fun e=>by subst e; exact h.2.1 (.inr hm)) h.1,h.2⟩
 refine ⟨⟨?_,I.sm,?_,ns hv,cell hv,kind,fun x c e=>⟨cells x c e,(I.cells x c e).2⟩,I.len,?_,I.apart,I.ownNe,I.locX,fun a h=>ob12 (I.frs a h) fun o e q=>⟨o,keep a o (fun z=>by subst z; exact hb.elim (fun z=>I.locX.1 (z ▸ F.frX _ h)) fun ζ1=>ob11 ζ1 fun x z=>I.locX.2 x _ z (F.frX _ h)) e,q⟩⟩,⟨fun a o e h=>.of (keep a o (fun q=>by subst q; exact h hm) e),hg,hd,ho,fun _ _ e=>e,fun a h=>.inl h,fun a o e=>by
  by_cases q:a=b₀
  ·subst q; exact live
  ·exact ⟨o,keep a o q e⟩⟩⟩
 ·intro a o e
  refine keep a o (fun q=>?_) (I.base a o e)
  subst q
  rw [(I.low a (.inr hm)).1] at e; exact nomatch e
 ·intro a h
  refine ⟨(I.low a h).1,?_⟩
  by_cases e:a=b₀
  ·subst e; exact live
  ·refine ob11 ((I.low a h).2) fun o e'=>?_; exact ⟨o,keep a o e e'⟩
 ·intro n a σ e1 e2
  refine (I.slots n a σ e1 e2).calm' hv fun c hc o ho=>keep a o (fun q=>?_) ho
  subst hc q
  refine ob03 (I.ownNe a ⟨n,c,e2,e1⟩) fun h1 h2 _=>?_
  rcases hb with h | ⟨x,h⟩
  ·exact h1 h
  ·exact h2 x h
theorem Inv.storeLocal (I:Inv prog w F env sl ρ s) {x:Str} {v:Value} {av:AV} (hk:F.env.kindOf x=some .local) (hv:Has prog w (Vw F sl ρ s.heap) ρ av v) {m:Str→Option Value} (hm:∀ x av,env.lookup x=some av→F.env.kindOf x=some .local→∃ v,m x=some v∧Has prog w (Vw F sl ρ s.heap) ρ av v)
  {h':Heap} {tk:Nat} (hn:h'.Ns F.env.locals (fun y=>if y=x then some v else m y)) (hs:Heap.SameBut F.env.locals s.heap h') :
  Inv prog w F (A8 x av env) sl ρ { s with heap:=h',toks:=tk }∧Evo F sl ρ s sl ρ { s with heap:=h',toks:=tk }:=by
 have kp:=BS hs
 refine I.rebind (s':={ s with heap:=h',toks:=tk }) (.inl rfl) kp (ob32 hn fun o _ _ e _=>⟨o,e⟩) rfl rfl rfl ?_ ?_ ?_ ?_
 ·intro hV
  refine ⟨_,hn,fun y ay e k=>?_⟩
  rw [AY] at e
  by_cases q:y=x
  ·subst q
   rw [if_pos rfl] at e
   injection e with e; subst e
   exact ⟨v,by simp,Has.mono prog w hV (fun _ _ e=>e) _ _ hv⟩
  ·rw [if_neg q] at e
   refine ob12 (hm y ay e k) fun u e1 e2=>?_
   exact ⟨u,by simp [q,e1],Has.mono prog w hV (fun _ _ e=>e) _ _ e2⟩
 ·intro hV y ay e k
  have q:y≠x:=fun q=>by subst q; rw [hk] at k; exact k.elim (fun k=>nomatch k) fun k=>nomatch k
  rw [AY,if_neg q] at e
  (refine ob23 (I.cell y ay e k) fun c u e1 ζ1 e3=>?_; refine ob12 ζ1 ?_; clear ζ1; intro o e2 e4)
  exact ⟨c,u,e1,⟨o,kp c o (I.cells y c (AF e1)).2 e2,e4⟩,Has.mono prog w hV (fun _ _ e=>e) _ _ e3⟩
 ·intro y ay e
  rw [AY] at e
  by_cases q:y=x
  ·subst q; exact .inl hk
  ·rw [if_neg q] at e; exact I.kind y ay e
 ·intro y c e
  (refine ob02 (I.cells y c e) fun ζ1 h3=>?_; refine ob22 ζ1 ?_; clear ζ1; intro ov o h1 h2)
  exact ⟨ov,o,kp c o h3 h1,h2⟩
theorem Inv.storeCell (I:Inv prog w F env sl ρ s) (hap:∀ x y c,F.env.cells.lookup x=some c→F.env.cells.lookup y=some c→x=y) {x:Str} {v:Value} {av:AV} {c:Addr} (hk:F.env.kindOf x=some .cell) (hc:F.env.cells.lookup x=some c) (hv:Has prog w (Vw F sl ρ s.heap) ρ av v)
  {h':Heap} (hn:h'.IsCell c (some v)) (hs:Heap.SameBut c s.heap h') :
  Inv prog w F (A8 x av env) sl ρ { s with heap:=h' }∧Evo F sl ρ s sl ρ { s with heap:=h' }:=by
 have kp:=BS hs
 have hcm:=AF hc
 refine I.rebind (s':={ s with heap:=h' }) (.inr ⟨x,hcm⟩) kp (ob12 hn fun o e _=>⟨o,e⟩) rfl rfl rfl ?_ ?_ ?_ ?_
 ·intro hV
  refine ob12 I.ns fun m h1 h2=>?_
  refine ⟨m,h1.at fun o e=>kp _ o (Ne.symm (I.cells x c hcm).2) e,fun y ay e k=>?_⟩
  have q:y≠x:=fun q=>by subst q; rw [hk] at k; exact nomatch k
  rw [AY,if_neg q] at e
  refine ob12 (h2 y ay e k) fun u e1 e2=>?_
  exact ⟨u,e1,Has.mono prog w hV (fun _ _ e=>e) _ _ e2⟩
 ·intro hV y ay e k
  rw [AY] at e
  by_cases q:y=x
  ·subst q
   rw [if_pos rfl] at e
   injection e with e; subst e
   exact ⟨c,v,hc,hn,Has.mono prog w hV (fun _ _ e=>e) _ _ hv⟩
  ·rw [if_neg q] at e
   (refine ob23 (I.cell y ay e k) fun c' u e1 ζ1 e3=>?_; refine ob12 ζ1 ?_; clear ζ1; intro o e2 e4)
   exact ⟨c',u,e1,⟨o,kp c' o (fun z=>by subst z; exact q (hap y x _ e1 hc)) e2,e4⟩,Has.mono prog w hV (fun _ _ e=>e) _ _ e3⟩
 ·intro y ay e
  rw [AY] at e
  by_cases q:y=x
  ·subst q; exact .inr (.inl hk)
  ·rw [if_neg q] at e; exact I.kind y ay e
 ·intro y c' e
  by_cases q:c'=c
  ·subst q; exact ⟨some v,hn⟩
  ·(refine ob02 (I.cells y c' e) fun ζ1 h3=>?_; refine ob22 ζ1 ?_; clear ζ1; intro ov o h1 h2)
   exact ⟨ov,o,kp c' o q h1,h2⟩
structure StOK (F:Frm):Prop where
 kind:F.env.scope.kind=.function
 apart:∀ x y c,F.env.cells.lookup x=some c→F.env.cells.lookup y=some c→x=y
 cells:∀ x,F.env.kindOf x=some .cell∨F.env.kindOf x=some .free→∃ c,F.env.cells.lookup x=some c
theorem FX (hS:StOK F) (I:Inv prog w F env sl ρ s) {x:Str} {v:Value} {av:AV} (hk:CD F.env.scope x=true) (hv:Has prog w (Vw F sl ρ s.heap) ρ av v) {Q:Unit→Shared→Prop} {E:Value→Shared→Prop}
  (hQ:∀ s',Inv prog w F (A8 x av env) sl ρ s'→Evo F sl ρ s sl ρ s'→Q () s'):wpAny (model prog w) A (storeName F.env x v) Q E s:=by
 unfold CD at hk
 split at hk
 ·rename_i e
  refine ob12 I.ns fun m h1 h2=>?_
  refine wpAny_storeName_local e h1 (fun h' hn hs=>?_) (by rw [hS.kind]; rfl)
  refine ob02 (I.storeLocal (tk:=s.toks+1) e hv h2 hn hs) fun i1 i2=>?_
  exact hQ _ i1 i2
 ·rename_i e
  refine ob11 (hS.cells x (.inl e)) fun c hc=>?_
  (refine ob02 (I.cells x c (AF hc)) fun ζ1 _=>?_; refine ob11 ζ1 ?_; clear ζ1; intro ov h1)
  refine wpAny_storeName_cell hS.kind e hc h1 fun h' hn hs=>?_
  refine ob02 (I.storeCell hS.apart e hc hv hn hs) fun i1 i2=>?_
  exact hQ _ i1 i2
 ·exact nomatch hk
theorem G1 (hS:StOK F) (I:Inv prog w F env sl ρ s) {x:Str} {pos:Pos} {v:Value} {av:AV} (hk:CD F.env.scope x=true) (hv:Has prog w (Vw F sl ρ s.heap) ρ av v) {Q:Unit→Shared→Prop} {E:Value→Shared→Prop}
  (hQ:∀ s',Inv prog w F (A8 x av env) sl ρ s'→Evo F sl ρ s sl ρ s'→Q () s'):wpAny (model prog w) A (assign (.Name x pos) F.env v) Q E s:=
 wpAny_assign_Name (FX hS I hk hv hQ)
end
end Mine
end
section
open PySem.SeqAt
namespace Mine
section
variable {prog:Program} {w:World} {EO:Value→Shared→Prop} {F:Frm} {env:AEnv} {sl:SL} {ρ:List Addr} {s:Shared} {A:Around} {d:Nat}
theorem EG {α:Type} {P:α→Prop} {X:Prop}:∀ {x:R α},(noX x).Holds P X→x.Holds P False
 | .ret _,h=>h
 | .ite _ _ _,⟨h1,h2⟩=>⟨fun e=>EG (h1 e),fun e=>EG (h2 e)⟩
 | .need _ _,⟨h1,h2⟩=>⟨h1,EG h2⟩
 | .exc,h=>h.elim
 | .fail,h=>h.elim
theorem Inv.weaken {env':AEnv} (I:Inv prog w F env sl ρ s) (h:∀ x av,env'.lookup x=some av→env.lookup x=some av):Inv prog w F env' sl ρ s:=
 ⟨I.base,I.sm,I.low,ob12 I.ns fun m h1 h2=>⟨m,h1,fun x av e k=>h2 x av (h x av e) k⟩,fun x av e k=>I.cell x av (h x av e) k,fun x av e=>I.kind x av (h x av e),I.cells,I.len,I.slots,I.apart,I.ownNe,I.locX,I.frs⟩
theorem Inv.turn {z:Addr} (I:Inv prog w F env sl ρ s) (hz:F.X z) (hf:¬ F.fr z) {s':Shared} (keep:∀ a o,a≠z→s.heap.get? a=some o→s'.heap.get? a=some o) (live:∃ o,s'.heap.get? z=some o):Inv prog w F env sl ρ s':=by
 have hv:∀ b o,Vw F sl ρ s.heap b o→Vw F sl ρ s'.heap b o:=fun b o h=>⟨keep b o (fun e=>h.2.1 (.inl (e ▸ hz))) h.1,h.2⟩
 have ned:∀ a,Mut F sl ρ a→a≠z:=fun a h e=>by
  subst e
  rcases h with h | ⟨x,h⟩ | h
  ·exact I.locX.1 (h ▸ hz)
  ·exact I.locX.2 x _ h hz
  ·exact (I.ownNe _ h).2.2 hz
 refine ⟨fun a o e=>keep a o (fun q=>by subst q; rw [(I.low a (.inl hz)).1] at e; exact nomatch e) (I.base a o e),I.sm,fun a h=>⟨(I.low a h).1,?_⟩,?_,?_,I.kind,?_,I.len,?_,I.apart,I.ownNe,I.locX,fun a h=>ob12 (I.frs a h) fun o e q=>⟨o,keep a o (fun z=>hf (z ▸ h)) e,q⟩⟩
 ·by_cases q:a=z
  ·subst q; exact live
  ·refine ob11 ((I.low a h).2) fun o e=>?_; exact ⟨o,keep a o q e⟩
 ·refine ob12 I.ns fun m h1 h2=>?_
  exact ⟨m,h1.at fun o e=>keep _ o (ned _ (.inl rfl)) e,fun x av e k=>ob12 (h2 x av e k) fun v e1 e2=>⟨v,e1,Has.mono prog w hv (fun _ _ e=>e) av v e2⟩⟩
 ·intro x av e k
  (refine ob23 (I.cell x av e k) fun q v e1 ζ1 e4=>?_; refine ob12 ζ1 ?_; clear ζ1; intro o e2 e3)
  exact ⟨q,v,e1,⟨o,keep q o (ned q (.inr (.inl ⟨x,AF e1⟩))) e2,e3⟩,Has.mono prog w hv (fun _ _ e=>e) av v e4⟩
 ·intro x c e
  (refine ob02 (I.cells x c e) fun ζ1 h3=>?_; refine ob22 ζ1 ?_; clear ζ1; intro ov o h1 h2)
  exact ⟨⟨ov,o,keep c o (ned c (.inr (.inl ⟨x,e⟩))) h1,h2⟩,h3⟩
 ·intro n a σ e1 e2
  refine (I.slots n a σ e1 e2).calm' hv fun c hc o ho=>keep a o (ned a ?_) ho
  subst hc
  exact .inr (.inr ⟨n,c,e2,e1⟩)
theorem MH {z:Addr} (hz:F.X z) {h h':Heap} (keep:∀ a o,a≠z→h.get? a=some o→h'.get? a=some o) (b:Addr) (o:Obj) (v:Vw F sl ρ h b o):Vw F sl ρ h' b o:=⟨keep b o (fun e=>v.2.1 (.inl (e ▸ hz))) v.1,v.2⟩
theorem Evo.turn {z:Addr} {sl':SL} {ρ':List Addr} {s₁ s':Shared} (x:Evo F sl ρ s sl' ρ' s₁) (hz:s.heap.get? z=none) (keep:∀ a o,a≠z→s₁.heap.get? a=some o→s'.heap.get? a=some o) (hg:s'.gens=s₁.gens) (hd:s'.drawn=s₁.drawn) (ho:s'.os=s₁.os):Evo F sl ρ s sl' ρ' s':=
 ⟨fun a o e hm=>(x.keep a o e hm).trans fun o' e'=>.of (keep a o' (fun q=>by subst q; rw [hz] at e; exact nomatch e) e'),hg.trans x.gens,hd.trans x.drawn,ho.trans x.os,x.ext,x.mu,fun a o e=>ob11 (x.live a o e) fun o' e'=>⟨o',keep a o' (fun q=>by subst q; rw [hz] at e; exact nomatch e) e'⟩⟩
noncomputable def Frm.comp (F:Frm) (sc:Scope) (cl:List (Str×Addr)) (C J D:Addr):Frm:=
 { env:=compEnvC sc cl C F.env,X:=fun a=>F.X a∨a=F.env.locals∨((∃ x,(x,a)∈F.env.cells)∧∀ y,(y,a) ∉ cl)∨a=J∨a=D,base:=F.base,fr:=Around1 F,frX:=fun a h=>h.elim (fun h=>.inl (F.frX a h)) fun h=>.inr (.inl h) }
structure CompOK (F:Frm) (sc:Scope) (cl:List (Str×Addr)) (s₀:Shared) (C J D:Addr):Prop where
 sub:∀ x c,cl.lookup x=some c→F.env.cells.lookup x=some c
 mem:∀ x c,(x,c)∈cl→cl.lookup x=some c
 newC:s₀.heap.get? C=none
 newJ:s₀.heap.get? J=none
 newD:s₀.heap.get? D=none
 neCJ:C≠J
 neCD:C≠D
 neJD:J≠D
 frJ:¬ Around1 F J
 frD:¬ Around1 F D
theorem FY {sc:Scope} {cl:List (Str×Addr)} {C J D:Addr} {s₀:Shared} (K:CompOK F sc cl s₀ C J D) {a:Addr}:Bad (F.comp sc cl C J D) sl ρ a↔Bad F sl ρ a∨a=C∨a=J∨a=D:=by
 have sub:∀ x,(x,a)∈cl→(x,a)∈F.env.cells:=fun x h=>AF (K.sub x a (K.mem x a h))
 constructor
 ·rintro ((h | h | ⟨h,_⟩ | h | h) | h | ⟨x,h⟩ | h)
  ·exact .inl (.inl h)
  ·exact .inl (.inr (.inl h))
  ·exact .inl (.inr (.inr (.inl h)))
  ·exact .inr (.inr (.inl h))
  ·exact .inr (.inr (.inr h))
  ·exact .inr (.inl h)
  ·exact .inl (.inr (.inr (.inl ⟨x,sub x h⟩)))
  ·exact .inl (.inr (.inr (.inr h)))
 ·rintro ((h | h | ⟨x,h⟩ | h) | h | h | h)
  ·exact .inl (.inl h)
  ·exact .inl (.inr (.inl h))
  ·by_cases q:∃ y,(y,a)∈cl
   ·exact .inr (.inr (.inl q))
   ·exact .inl (.inr (.inr (.inl ⟨⟨x,h⟩,fun y hy=>q ⟨y,hy⟩⟩)))
  ·exact .inr (.inr (.inr h))
  ·exact .inr (.inl h)
  ·exact .inl (.inr (.inr (.inr (.inl h))))
  ·exact .inl (.inr (.inr (.inr (.inr h))))
theorem HF {sc:Scope} {cl:List (Str×Addr)} {C J D:Addr} {s₀:Shared} (K:CompOK F sc cl s₀ C J D) {a:Addr} (h:Mut (F.comp sc cl C J D) sl ρ a):Mut F sl ρ a∨a=C:=by
 rcases h with h | ⟨x,h⟩ | h
 ·exact .inr h
 ·exact .inl (.inr (.inl ⟨x,AF (K.sub x a (K.mem x a h))⟩))
 ·exact .inl (.inr (.inr h))
theorem Inv.comp {sc:Scope} {cl:List (Str×Addr)} {C J D:Addr} {cenv:AEnv} {s₁:Shared} (I:Inv prog w F env sl ρ s) (K:CompOK F sc cl s C J D) (g:Grow s s₁) {m₀:Str→Option Value} (hC:s₁.heap.Ns C m₀) (hJ:∃ o,s₁.heap.get? J=some o) (hD:∃ o,s₁.heap.get? D=some o)
  (hcap:∀ x av,cenv.lookup x=some av→env.lookup x=some av∧((F.comp sc cl C J D).env.kindOf x=some .cell∨(F.comp sc cl C J D).env.kindOf x=some .free)∧∃ c,cl.lookup x=some c∧(F.env.kindOf x=some .cell∨F.env.kindOf x=some .free)) :
  Inv prog w (F.comp sc cl C J D) cenv sl ρ s₁:=by
 have liveC:∃ o,s₁.heap.get? C=some o:=ob32 hC fun o _ _ e _=>⟨o,e⟩
 have bn:∀ a,s.heap.get? a=none→F.base.get? a=none:=fun a h=>by
  cases e:F.base.get? a with
  | none=>rfl
  | some o=>rw [I.base a o e] at h; exact nomatch h
 have old:∀ a,Bad F sl ρ a→∃ o,s.heap.get? a=some o:=fun a h=>(I.low a h).2
 have ne:∀ {a z:Addr},s.heap.get? z=none→Bad F sl ρ a→a≠z:=fun hz h e=>by
  refine ob11 (old _ h) fun o ho=>?_
  rw [e,hz] at ho; exact nomatch ho
 have hv:∀ b o,Vw F sl ρ s.heap b o→Vw (F.comp sc cl C J D) sl ρ s₁.heap b o:=fun b o h=>by
  refine ⟨g.keep b o h.1,fun q=>?_,h.2.2⟩
  have h1:=h.1
  rcases (FY K).mp q with q | q | q | q
  ·exact h.2.1 q
  ·rw [q,K.newC] at h1; exact nomatch h1
  ·rw [q,K.newJ] at h1; exact nomatch h1
  ·rw [q,K.newD] at h1; exact nomatch h1
 refine ⟨fun a o e=>g.keep a o (I.base a o e),I.sm,fun a h=>?_,⟨m₀,hC,fun x av e k=>?_⟩,fun x av e k=>?_,fun x av e=>?_,fun x c e=>?_,I.len,fun n a σ e1 e2=>(I.slots n a σ e1 e2).calm hv (fun _ _ e=>e) (g.keep a),I.apart,fun a h=>?_,⟨?_,fun x c e=>?_⟩,fun a h=>ob12 (I.around1 a h) fun o e q=>⟨o,g.keep a o e,q⟩⟩
 ·rcases (FY K).mp h with h | h | h | h
  ·exact ⟨(I.low a h).1,ob11 ((I.low a h).2) fun o e=>⟨o,g.keep a o e⟩⟩
  ·subst h; exact ⟨bn _ K.newC,liveC⟩
  ·subst h; exact ⟨bn _ K.newJ,hJ⟩
  ·subst h; exact ⟨bn _ K.newD,hD⟩
 ·refine ob03 (hcap x av e) fun _ k2 _=>?_
  rw [k] at k2; exact k2.elim (fun q=>nomatch q) fun q=>nomatch q
 ·(refine ob03 (hcap x av e) fun h1 _ ζ1=>?_; refine ob12 ζ1 ?_; clear ζ1; intro c h2 h3)
  refine ob23 (I.cell x av h1 h3) fun c' v e1 e2 e3=>?_
  rw [K.sub x c h2] at e1
  injection e1 with e1
  subst e1
  exact ⟨c,v,h2,e2.keeps g.keep,Has.mono prog w hv (fun _ _ e=>e) _ _ e3⟩
 ·exact .inr (hcap x av e).2.1
 ·have hm:=AF (K.sub x c (K.mem x c e))
  (refine ob02 (I.cells x c hm) fun ζ1 h2=>?_; refine ob11 ζ1 ?_; clear ζ1; intro ov h1)
  exact ⟨⟨ov,h1.keeps g.keep⟩,ne K.newC (.inr (.inr (.inl ⟨x,hm⟩)))⟩
 ·refine ob03 (I.ownNe a h) fun h1 h2 h3=>?_
  have hb:Bad F sl ρ a:=.inr (.inr (.inr h))
  refine ⟨ne K.newC hb,fun x q=>h2 x (AF (K.sub x a (K.mem x a q))),?_⟩
  rintro (q | q | ⟨⟨x,q⟩,_⟩ | q | q)
  ·exact h3 q
  ·exact h1 q
  ·exact h2 x q
  ·exact ne K.newJ hb q
  ·exact ne K.newD hb q
 ·rintro (q | q | ⟨⟨x,q⟩,_⟩ | q | q)
  ·exact ne K.newC (.inl q) rfl
  ·exact ne K.newC (.inr (.inl rfl)) q.symm
  ·exact ne K.newC (.inr (.inr (.inl ⟨x,q⟩))) rfl
  ·exact K.neCJ q
  ·exact K.neCD q
 ·have hm:=AF (K.sub x c (K.mem x c e))
  have hb:Bad F sl ρ c:=.inr (.inr (.inl ⟨x,hm⟩))
  rintro (q | q | ⟨_,q⟩ | q | q)
  ·exact I.locX.2 x c hm q
  ·exact (I.cells x c hm).2 q
  ·exact q x e
  ·exact ne K.newJ hb q
  ·exact ne K.newD hb q
end
end Mine
end
section
open PySem.SeqAt
namespace Mine
section
variable {prog:Program} {w:World} {EO:Value→Shared→Prop} {F:Frm} {env:AEnv} {sl:SL} {ρ:List Addr} {s:Shared} {A:Around} {d:Nat}
theorem Inv.uncomp {sc:Scope} {cl:List (Str×Addr)} {C J D:Addr} {cenv:AEnv} {s':Shared} {sl':SL} {ρ':List Addr} (I:Inv prog w F env sl ρ s) (K:CompOK F sc cl s C J D) (Ic:Inv prog w (F.comp sc cl C J D) cenv sl' ρ' s') (ev:Evo (F.comp sc cl C J D) sl ρ s sl' ρ' s')
  (hap:∀ x y c,F.env.cells.lookup x=some c→F.env.cells.lookup y=some c→x=y)
  (hcap:∀ x c av,env.lookup x=some av→cl.lookup x=some c→cenv.lookup x=some av∧((F.comp sc cl C J D).env.kindOf x=some .cell∨(F.comp sc cl C J D).env.kindOf x=some .free))
  {s₉:Shared} (keep:∀ a o,a≠C→a≠J→s'.heap.get? a=some o→s₉.heap.get? a=some o) (hg:s₉.gens=s'.gens) (hd:s₉.drawn=s'.drawn) (ho:s₉.os=s'.os) :
  Inv prog w F env sl' ρ' s₉∧Evo F sl ρ s sl' ρ' s₉∧∀ b o,Vw (F.comp sc cl C J D) sl' ρ' s'.heap b o→Vw F sl' ρ' s₉.heap b o:=by
 have ne:∀ {a z:Addr},s.heap.get? z=none→(∃ o,s.heap.get? a=some o)→a≠z:=fun hz h e=>by
  (refine ob11 h ?_; clear h; intro o ho)
  rw [e,hz] at ho; exact nomatch ho
 -- what stood at the start and is not turned
 have kp:∀ a o,s.heap.get? a=some o→¬ Mut (F.comp sc cl C J D) sl ρ a→Kept (Around1 F) s₉.heap a o:=fun a o e hm=>Kept.trans (fr:=Around1 F) (ev.keep a o e hm) fun o' e'=>.of (keep a o' (ne K.newC ⟨o,e⟩) (ne K.newJ ⟨o,e⟩) e')
 have ownOld:∀ a,OwnA sl' ρ' a→Mut F sl ρ a∨s.heap.get? a=none:=fun a h=>by
  rcases ev.mu a (.inr (.inr h)) with q | q
  ·exact (HF K q).elim .inl fun e=>.inr (by rw [e]; exact K.newC)
  ·exact .inr q
 have badOld:∀ a o,s.heap.get? a=some o→Bad F sl' ρ' a→Bad F sl ρ a:=fun a o e h=>by
  rcases h with h | h | h | h
  ·exact .inl h
  ·exact .inr (.inl h)
  ·exact .inr (.inr (.inl h))
  ·rcases ownOld a h with q | q
   ·exact .inr q
   ·rw [e] at q; exact nomatch q
 have notMut:∀ a o,s.heap.get? a=some o→¬ Mut F sl ρ a→¬ Mut (F.comp sc cl C J D) sl ρ a:=fun a o e h q=>(HF K q).elim h fun q=>ne K.newC ⟨o,e⟩ q
 have hv:∀ b o,Vw F sl ρ s.heap b o→Vw F sl' ρ' s₉.heap b o:=fun b o h=>
  ⟨(kp b o h.1 (notMut b o h.1 fun q=>h.2.1 (.inr q))).exact (fun q=>h.2.1 (Around1.bad b q)),fun q=>h.2.1 (badOld b o h.1 q),h.2.2⟩
 have hvc:∀ b o,Vw (F.comp sc cl C J D) sl' ρ' s'.heap b o→Vw F sl' ρ' s₉.heap b o:=fun b o h=>
  ⟨keep b o (fun e=>h.2.1 ((FY K).mpr (.inr (.inl e)))) (fun e=>h.2.1 ((FY K).mpr (.inr (.inr (.inl e))))) h.1,fun q=>h.2.1 ((FY K).mpr (.inl q)),h.2.2⟩
 have neC:∀ a,Bad F sl' ρ' a→a≠C:=fun a h e=>by
  subst e
  rcases h with h | h | ⟨x,h⟩ | h
  ·exact ne K.newC (I.low _ (.inl h)).2 rfl
  ·exact ne K.newC (I.low _ (.inr (.inl h))).2 rfl
  ·exact ne K.newC (I.low _ (.inr (.inr (.inl ⟨x,h⟩)))).2 rfl
  ·exact (Ic.ownNe _ h).1 rfl
 have neJ:∀ a,Bad F sl' ρ' a→a≠J:=fun a h e=>by
  subst e
  rcases h with h | h | ⟨x,h⟩ | h
  ·exact ne K.newJ (I.low _ (.inl h)).2 rfl
  ·exact ne K.newJ (I.low _ (.inr (.inl h))).2 rfl
  ·exact ne K.newJ (I.low _ (.inr (.inr (.inl ⟨x,h⟩)))).2 rfl
  ·exact (Ic.ownNe _ h).2.2 (.inr (.inr (.inr (.inl rfl))))
 have notMutLoc:∀ a,(∃ o,s.heap.get? a=some o)→(∀ x,(x,a) ∉ cl)→¬ OwnA sl ρ a→¬ Mut (F.comp sc cl C J D) sl ρ a:=fun a hl hc ho q=>by
  rcases q with q | ⟨x,q⟩ | q
  ·exact ne K.newC hl q
  ·exact hc x q
  ·exact ho q
 have cellIn:∀ x a,(x,a)∈cl→(x,a)∈F.env.cells:=fun x a h=>AF (K.sub x a (K.mem x a h))
 have cellKeep:∀ a,(∃ x,(x,a)∈F.env.cells)→(∀ y,(y,a) ∉ cl)→∀ o,s.heap.get? a=some o→s₉.heap.get? a=some o:=fun a ζ1 hc o e=>
  ob11 ζ1 fun x hx=>(kp a o e (notMutLoc a ⟨o,e⟩ hc fun q=>(I.ownNe a q).2.1 x hx)).exact (I.cell_around1 hx)
 refine ⟨⟨fun a o e=>(kp a o (I.base a o e) ?_).exact (I.base_around1 e),I.sm,fun a h=>?_,?_,fun x av e k=>?_,I.kind,fun x c e=>⟨?_,(I.cells x c e).2⟩,Ic.len,fun n a σ e1 e2=>?_,Ic.apart,fun a h=>?_,I.locX,fun a h=>ob12 (I.frs a h) fun o e q=>ob12 ((kp a o e (notMut a o e (I.x_not_mut (F.frX a h)))).some) fun o' e' d'=>⟨o',e',fun vs=>d' ▸ q vs⟩⟩,⟨fun a o e hm=>(kp a o e (notMut a o e hm)).sub fun q=>q.resolve_right fun q=>hm (.inl q),hg.trans ev.gens,hd.trans ev.drawn,ho.trans ev.os,ev.ext,fun a h=>?_,fun a o e=>ob11 (ev.live a o e) fun o' e'=>⟨o',keep a o' (ne K.newC ⟨o,e⟩) (ne K.newJ ⟨o,e⟩) e'⟩⟩,hvc⟩
 ·intro q
  rcases HF K q with q | q
  ·rw [(I.low a (.inr q)).1] at e; exact nomatch e
  ·have:=I.base a o e
   rw [q,K.newC] at this; exact nomatch this
 ·have hb:=(FY K (sl:=sl') (ρ:=ρ')).mpr (.inl h)
  refine ⟨(Ic.low a hb).1,?_⟩
  refine ob11 ((Ic.low a hb).2) fun o e=>?_
  exact ⟨o,keep a o (neC a h) (neJ a h) e⟩
 ·refine ob12 I.ns fun m h1 h2=>?_
  have hl:∃ o,s.heap.get? F.env.locals=some o:=(I.low _ (.inr (.inl rfl))).2
  refine ⟨m,PE h1 fun o e=>kp _ o e (notMutLoc _ hl (fun x q=>(I.cells x _ (cellIn x _ q)).2 rfl) fun q=>(I.ownNe _ q).1 rfl),fun x av e k=>?_⟩
  refine ob12 (h2 x av e k) fun v e1 e2=>?_
  exact ⟨v,e1,Has.mono prog w hv ev.ext av v e2⟩
 ·(refine ob23 (I.cell x av e k) fun c v e1 ζ1 e4=>?_; refine ob12 ζ1 ?_; clear ζ1; intro o e2 e3)
  by_cases q:∃ y,(y,c)∈cl
  ·(refine ob11 q ?_; clear q; intro y hy)
   have hy':=K.mem y c hy
   have:y=x:=hap y x c (K.sub y c hy') e1
   subst this
   refine ob02 (hcap y c av e hy') fun k1 k2=>?_
   (refine ob23 (Ic.cell y av k1 k2) fun c' v' f1 ζ1 f3=>?_; refine ob12 ζ1 ?_; clear ζ1; intro o' f2 f5)
   have f1:cl.lookup y=some c':=f1
   rw [hy'] at f1
   injection f1 with f1
   subst f1
   exact ⟨c,v',e1,⟨o',keep c o' (neC c (.inr (.inr (.inl ⟨y,AF e1⟩)))) (neJ c (.inr (.inr (.inl ⟨y,AF e1⟩)))) f2,f5⟩,Has.mono prog w hvc (fun _ _ e=>e) _ _ f3⟩
  ·exact ⟨c,v,e1,⟨o,cellKeep c ⟨x,AF e1⟩ (fun y hy=>q ⟨y,hy⟩) o e2,e3⟩,Has.mono prog w hv ev.ext _ _ e4⟩
 ·by_cases q:∃ y,(y,c)∈cl
  ·(refine ob11 q ?_; clear q; intro y hy)
   (refine ob02 (Ic.cells y c hy) fun ζ1 h3=>?_; refine ob22 ζ1 ?_; clear ζ1; intro ov o h1 h2)
   exact ⟨ov,o,keep c o h3 (neJ c (.inr (.inr (.inl ⟨x,e⟩)))) h1,h2⟩
  ·(refine ob02 (I.cells x c e) fun ζ1 h3=>?_; refine ob22 ζ1 ?_; clear ζ1; intro ov o h1 h2)
   exact ⟨ov,o,cellKeep c ⟨x,e⟩ (fun y hy=>q ⟨y,hy⟩) o h1,h2⟩
 ·refine (Ic.slots n a σ e1 e2).calm' hvc fun c hc o ho=>keep a o (neC a ?_) (neJ a ?_) ho
  all_goals
   subst hc
   exact .inr (.inr (.inr ⟨n,c,e2,e1⟩))
 ·refine ob03 (Ic.ownNe a h) fun h1 h2 h3=>?_
  refine ⟨fun q=>h3 (.inr (.inl q)),fun x q=>?_,fun q=>h3 (.inl q)⟩
  by_cases z:∃ y,(y,a)∈cl
  ·(refine ob11 z ?_; clear z; intro y hy)
   exact h2 y hy
  ·exact h3 (.inr (.inr (.inl ⟨⟨x,q⟩,fun y hy=>z ⟨y,hy⟩⟩)))
 ·rcases h with h | h | h
  ·exact .inl (.inl h)
  ·exact .inl (.inr (.inl h))
  ·exact ownOld a h
end
end Mine
end
section
open PySem.SeqAt
namespace Mine
section
variable {prog:Program} {w:World} {EO:Value→Shared→Prop} {F:Frm} {env:AEnv} {sl:SL} {ρ:List Addr} {s:Shared} {A:Around} {d:Nat}
theorem LF (o:Option SL):B9 o none=o:=by cases o<;>rfl
theorem PW (a b c:Option SL):B9 (B9 a b) c=B9 a (B9 b c):=by
 cases a<;>cases b<;>cases c<;>rfl
theorem WF {c:AV} {t f:RL} {P:Option SL×List AV→Prop} {X:Prop} (h:(onB2 c t f).Holds P X):∃ b,c=.bool b∧(b=true→t.Holds P X)∧(b=false→f.Holds P X):=by
 unfold onB2 at h
 split at h
 ·exact ⟨true,rfl,fun _=>h,fun e=>nomatch e⟩
 ·exact ⟨false,rfl,fun e=>(nomatch e),fun _=>h⟩
 ·exact h.elim
theorem afJ {V:Vis} {c:AV} {ok:Bool} {t f:RL} {P:Option SL×List AV→Prop} {X:Prop} (hc:Has prog w V ρ c (.bool ok)) (h:(onB2 c t f).Holds P X):(ok=true→t.Holds P X)∧(ok=false→f.Holds P X):=
 ob12 (WF h) fun b e k=>by
  rw [e] at hc
  rw [show ok=b from Value.bool.inj hc]
  exact k
theorem aaE {x:RE} {t f:RL} {P:Option SL×List AV→Prop} {X:Prop} (h:(aiW x fun c=>onB2 c t f).Holds P X):x.Holds (fun p=>(AQ p.2).isSome=true∧p.1=none∧(onB2 p.2 t f).Holds P X) X:=by
 refine R.holds_mono (fun p hp=>?_) id (R.holds_bind h)
 obtain ⟨po,pa⟩:=p
 cases po with
 | none=>
  refine ⟨?_,rfl,hp⟩
  exact ob12 (WF hp) fun b e _=>by rw [show pa=.bool b from e]; rfl
 | some _=>exact hp.elim
structure LoopF (prog:Program) (w:World) (F FC:Frm) (cenv:AEnv) (sl:SL) (ρ:List Addr) (s:Shared) (J D:Addr) (fp:List Addr):Prop where
 XJ:FC.X J
 XD:FC.X D
 frJ:¬ FC.fr J
 frD:¬ FC.fr D
 newJ:s.heap.get? J=none
 newD:s.heap.get? D=none
 neDJ:D≠J
 fp:∀ b∈fp,¬ FC.fr b∧b≠D∧∀ sl' ρ' s',Inv prog w FC cenv sl' ρ' s'→Evo FC sl ρ s sl' ρ' s'→¬ Mut FC sl' ρ' b
 mutD:∀ sl' ρ' s',Inv prog w FC cenv sl' ρ' s'→¬ Mut FC sl' ρ' D
 vis:∀ sl' ρ' s',Evo FC sl ρ s sl' ρ' s'→∀ b ob,Vw F sl ρ s.heap b ob→Vw FC sl' ρ' s'.heap b ob
theorem aqL {sc:Scope} {cl:List (Str×Addr)} {C J D:Addr} {cenv:AEnv} {s₂:Shared} {items:List AV} {fp:List Addr} {n:Nat} {P₀:Nat→Value→Prop} {St:Nat→Heap→Prop}
  (K:CompOK F sc cl s C J D) (It:IterAt prog w A F sl ρ s s₂ J items fp n P₀ St):LoopF prog w F (F.comp sc cl C J D) cenv sl ρ s J D fp:=by
 have XJ:(F.comp sc cl C J D).X J:=.inr (.inr (.inr (.inl rfl)))
 have XD:(F.comp sc cl C J D).X D:=.inr (.inr (.inr (.inr rfl)))
 have dead {a:Addr} {ob:Obj} {G:Prop} (hn:s.heap.get? a=none) (e:s.heap.get? a=some ob):G:=by rw [hn] at e; exact nomatch e
 refine ⟨XJ,XD,K.frJ,K.frD,K.newJ,K.newD,Ne.symm K.neJD,fun b hb=>⟨fun q=>?_,fun q=>?_,fun sl' ρ' s' I' ev' q=>?_⟩,fun sl' ρ' s' I' q=>?_,fun sl' ρ' s' ev' b ob e=>?_⟩
 ·rcases It.fp b hb with e | ⟨ob,e⟩
  ·exact K.frJ (e ▸ q)
  ·exact e.2.1 (Around1.bad b q)
 ·rcases It.fp b hb with e | ⟨ob,e⟩
  ·exact K.neJD (e.symm.trans q)
  ·exact dead K.newD (q ▸ e.1)
 ·rcases It.fp b hb with e | ⟨ob,e⟩
  ·rcases q with q | ⟨y,q⟩ | q
   ·exact K.neCJ (q.symm.trans e)
   ·exact I'.locX.2 y _ q (e ▸ XJ)
   ·exact (I'.ownNe _ q).2.2 (e ▸ XJ)
  ·rcases ev'.mu b q with q | q
   ·rcases HF K q with q | q
    ·exact e.2.1 (.inr q)
    ·exact dead K.newC (q ▸ e.1)
   ·exact dead q e.1
 ·rcases q with q | ⟨y,q⟩ | q
  ·exact K.neCD q.symm
  ·exact I'.locX.2 y _ q XD
  ·exact (I'.ownNe _ q).2.2 XD
 ·have nm:¬ Mut (F.comp sc cl C J D) sl ρ b:=fun q=>(HF K q).elim (fun q=>e.2.1 (.inr q)) fun q=>dead K.newC (q ▸ e.1)
  have nx:¬ (F.comp sc cl C J D).X b:=fun q=>by
   rcases q with q | q | ⟨⟨y,q⟩,_⟩ | q | q
   ·exact e.2.1 (.inl q)
   ·exact e.2.1 (.inr (.inl q))
   ·exact e.2.1 (.inr (.inr (.inl ⟨y,q⟩)))
   ·exact dead K.newJ (q ▸ e.1)
   ·exact dead K.newD (q ▸ e.1)
  exact ⟨(ev'.keep b ob e.1 nm).exact fun q=>nx ((F.comp sc cl C J D).frX b q),fun q=>q.elim nx fun q=>(ev'.mu b q).elim nm fun q=>dead q e.1,e.2.2⟩
inductive CompI (prog:Program) (w:World) (FC:Frm) (cenv:AEnv) (sl:SL) (ρ:List Addr) (s:Shared) (St:Nat→Heap→Prop) (D:Addr) (n:Nat) (W:Nat→Option SL→List AV→Prop) (k:Nat) (s':Shared):Prop
 | mk (i:Nat) (o:Option SL) (outs:List Value) (mm:Nat) (acc:List AV) (ρ':List Addr) (hik:i+k=n) (I:Inv prog w FC cenv (o.getD sl) ρ' s') (ev:Evo FC sl ρ s (o.getD sl) ρ' s') (st:St i s'.heap)
  (hD:s'.heap.get? D=some (lstO outs mm)) (hacc:HasL prog w (Vw FC (o.getD sl) ρ' s'.heap) ρ' acc outs) (hle:acc.length≤i) (hh:W i o acc)
variable {FC:Frm} {cenv:AEnv} {J D:Addr} {fp:List Addr}
theorem LoopF.frame (L:LoopF prog w F FC cenv sl ρ s J D fp) {n:Nat} {P₀:Nat→Value→Prop} {St:Nat→Heap→Prop} (W:Walks prog w A J fp [J] n P₀ St) {sl₁ sl₂:SL} {ρ₁ ρ₂:List Addr} {s₁ s₂:Shared} (I:Inv prog w FC cenv sl₁ ρ₁ s₁) (ev:Evo FC sl ρ s sl₁ ρ₁ s₁) (ev':Evo FC sl₁ ρ₁ s₁ sl₂ ρ₂ s₂) {j:Nat} (st:St j s₁.heap):St j s₂.heap:=
 W.frame _ _ _ st fun b hb ob e=>(ev'.keep b ob e ((L.fp b hb).2.2 _ _ _ I ev)).exact (L.fp b hb).1
theorem LoopF.keepD (L:LoopF prog w F FC cenv sl ρ s J D fp) {sl₁ sl₂:SL} {ρ₁ ρ₂:List Addr} {s₁ s₂:Shared} (I:Inv prog w FC cenv sl₁ ρ₁ s₁) (ev':Evo FC sl₁ ρ₁ s₁ sl₂ ρ₂ s₂) {o:Obj} (h:s₁.heap.get? D=some o):s₂.heap.get? D=some o:=
 (ev'.keep D _ h (L.mutD _ _ _ I)).exact L.frD
theorem LoopF.add (L:LoopF prog w F FC cenv sl ρ s J D fp) {n:Nat} {P₀:Nat→Value→Prop} {St:Nat→Heap→Prop} (Wk:Walks prog w A J fp [J] n P₀ St) {W:Nat→Option SL→List AV→Prop} {i k:Nat} {o o₉:Option SL} {outs:List Value} {mm:Nat} {acc:List AV} {ρ' ρ₉:List Addr} {s₆ s₉:Shared} {y:Value} {ya:AV}
  (hik:i+(k+1)=n) (I₆:Inv prog w FC cenv (o.getD sl) ρ' s₆) (ev₆:Evo FC sl ρ s (o.getD sl) ρ' s₆) (st₆:St (i+1) s₆.heap) (hacc:HasL prog w (Vw FC (o.getD sl) ρ' s₆.heap) ρ' acc outs) (hle:acc.length≤i)
  (I₉:Inv prog w FC cenv (o₉.getD (o.getD sl)) ρ₉ s₉) (ev:Evo FC (o.getD sl) ρ' s₆ (o₉.getD (o.getD sl)) ρ₉ s₉) (hy:Has prog w (Vw FC (o₉.getD (o.getD sl)) ρ₉ s₉.heap) ρ₉ ya y) (hW:W (i+1) (B9 o o₉) (acc++[ya]))
  {h':Heap} (kp:∀ b ob,b≠D→s₉.heap.get? b=some ob→h'.get? b=some ob) (hg:h'.get? D=some (lstO (outs++[y]) (mm+1))):CompI prog w FC cenv sl ρ s St D n W k { s₉ with heap:=h' }:=by
 rw [← BH o o₉ sl] at I₉ ev hy
 refine .mk (i+1) (B9 o o₉) (outs++[y]) (mm+1) (acc++[ya]) ρ₉ ((Nat.add_right_comm i 1 k).trans hik) (I₉.turn L.XD L.frD kp ⟨_,hg⟩) ((ev₆.trans ev).turn L.newD kp rfl rfl rfl) ?_ hg ?_ ?_ hW
 ·exact Wk.frame _ _ _ (L.frame Wk I₆ ev₆ ev st₆) fun b hb ob e=>kp b ob (L.fp b hb).2.1 e
 ·exact HasL.mono prog w (MH L.XD kp) (fun _ _ e=>e) _ _ ((ev.hasL hacc).append ⟨y,[],rfl,hy,rfl⟩)
 ·rw [List.length_append]; exact Nat.add_le_add_right hle 1
theorem afK {items:List AV} {i:Nat} {av:AV} (h:items[i]?=some av):items.drop i=av :: items.drop (i+1):=by
 have hlt:=(List.getElem?_eq_some_iff.mp h).1
 rw [List.drop_eq_getElem_cons hlt,(List.getElem?_eq_some_iff.mp h).2]
theorem SU {a b i n m:Nat} (h1:a=b) (h2:a≤i) (h3:i<n) (h4:n=m) (h5:m<10000000):b<16777216:=h1 ▸ Nat.lt_of_le_of_lt h2 (Nat.lt_trans h3 (h4 ▸ Nat.lt_trans h5 (by decide)))
theorem WG {s₂ s₄:Shared} {items:List AV} {n:Nat} {P₀:Nat→Value→Prop} {St:Nat→Heap→Prop} (L:LoopF prog w F FC cenv sl ρ s J D fp)
  (It:IterAt prog w A F sl ρ s s₂ J items fp n P₀ St) (hS:StOK FC) {x:Str} (hx:CD FC.env.scope x=true) (hcx:cenv.lookup x=none)
  (hn:items.length<10000000) {T G:AV→SL→RE} {elt iter:Expr} {px:Pos} {ifs:List Expr} {pos:Pos} {sc:Scope}
  (hT:∀ av sl ρ s,Inv prog w FC (A8 x av cenv) sl ρ s→TriB prog w EO FC (A8 x av cenv) sl ρ s A (T av sl)
   (forIn ifs true fun c r=>if r=true then do let ok ← isTrue c FC.env (eval c FC.env); pure (ForInStep.yield ok) else pure (ForInStep.yield r)))
  (hG:∀ av sl ρ s,Inv prog w FC (A8 x av cenv) sl ρ s→Tri prog w EO FC (A8 x av cenv) sl ρ s A (G av sl) (eval elt FC.env))
  {P:Option SL×List AV→Prop} {RR:Result→Shared→Prop}
  (hR:∀ s' s₉ o acc outs mm ρ',Inv prog w FC cenv (o.getD sl) ρ' s'→Evo FC sl ρ s (o.getD sl) ρ' s'→s'.heap.get? D=some (lstO outs mm)→HasL prog w (Vw FC (o.getD sl) ρ' s'.heap) ρ' acc outs→P (o,acc) →
   (∀ a ob,a≠J→s'.heap.get? a=some ob→s₉.heap.get? a=some ob)→s₉.gens=s'.gens→s₉.drawn=s'.drawn→s₉.os=s'.os→RR (.ok .next) s₉)
  (Ic:Inv prog w FC cenv sl ρ s₄) (ev:Evo FC sl ρ s sl ρ s₄) (hst:St 0 s₄.heap) (hD:s₄.heap.get? D=some (lstO [] 0)) (h:(CU G T items sl).Holds P False) :
  codeAny (model prog w) A (.compLoop (.ListComp elt [⟨.Name x px,iter,ifs,0⟩] sc pos) 0 (.ref J) (.ref D) FC.env) RR s₄:=by
 refine codeAny_compLoop_tests (CompI prog w FC cenv sl ρ s St D n fun i o acc=>(CU G T (items.drop i) (o.getD sl)).Holds (fun q=>P (B9 o q.1,acc++q.2)) False) (fun k s₅ hI=>?_) n (.mk 0 none [] 0 [] ρ (Nat.zero_add n) Ic ev hst hD rfl (Nat.le_refl _) h)
 cases hI with
 | mk i o outs mm acc ρ' hik I₅ ev₅ st₅ hD₅ hacc hle hh=>
 cases k with
 | zero=>
  refine It.walks.done s₅ _ _ (hik ▸ st₅) fun h' tk hk=>?_
  rw [List.drop_of_length_le (i:=i) (Nat.le_of_eq (It.len.symm.trans hik.symm))] at hh
  have hh:P (B9 o none,acc++[]):=hh
  rw [LF,List.append_nil] at hh
  exact hR s₅ _ o acc outs mm ρ' I₅ ev₅ hD₅ hacc hh (fun a ob hne e=>hk a ob (fun q=>hne (List.mem_singleton.mp q)) e) rfl rfl rfl
 | succ k=>
  have hi:i<n:=hik ▸ Nat.lt_add_of_pos_right (Nat.succ_pos k)
  refine It.walks.item i s₅ _ _ hi st₅ fun v h' tk hv st₆ hk=>?_
  have hk':∀ a ob,a≠J→s₅.heap.get? a=some ob→h'.get? a=some ob:=fun a ob hne e=>hk a ob (fun q=>hne (List.mem_singleton.mp q)) e
  have I₆:=I₅.turn (s':={ s₅ with heap:=h',toks:=tk }) L.XJ L.frJ hk' (ob12 (It.stLive _ _ st₆) fun ob e _=>⟨ob,e⟩)
  have ev₆:=ev₅.turn (s':={ s₅ with heap:=h',toks:=tk }) L.newJ hk' rfl rfl rfl
  have hD₆:=hk' D _ L.neDJ hD₅
  have hacc₆:=HasL.mono prog w (MH (sl:=o.getD sl) (ρ:=ρ') L.XJ hk') (fun _ _ e=>e) _ _ hacc
  clear hk hk' I₅ ev₅ st₅ hD₅ hacc
  refine ob12 (It.has i v hi hv) fun av hav hhas=>?_
  rw [afK hav] at hh
  refine G1 hS I₆ hx (Has.mono prog w (L.vis _ _ _ ev₆) ev₆.ext _ _ hhas) fun s₇ I₇ ev₇=>?_
  refine hT av (o.getD sl) ρ' s₇ I₇ _ False _ _ (aaE hh) (fun ok s₈ h₈=>?_) (fun hX=>hX.elim)
  clear hh
  refine ob35 h₈ fun o₈ c ρ₈ I₈ hc ev₈ ho₈ hp₈=>?_
  clear h₈
  cases (show o₈=none from ho₈)
  have hp:=afJ hc hp₈
  clear hc hp₈ ho₈
  have wk:∀ y a,cenv.lookup y=some a→(A8 x av cenv).lookup y=some a:=fun y a e=>by
   rw [AY,if_neg (fun q=>by rw [q,hcx] at e; exact nomatch e)]; exact e
  have I₈:=(show Inv prog w FC (A8 x av cenv) (o.getD sl) ρ₈ s₈ from I₈)
  have ev₆₈:=ev₇.trans (show Evo FC (o.getD sl) ρ' s₇ (o.getD sl) ρ₈ s₈ from ev₈)
  clear ev₈ ev₇ I₇
  cases ok with
  | false=>
   exact ⟨k,Nat.lt_succ_self k,.mk (i+1) o outs mm acc ρ₈ ((Nat.add_right_comm i 1 k).trans hik) (I₈.weaken wk) (ev₆.trans ev₆₈) (L.frame It.walks I₆ ev₆ ev₆₈ st₆) (L.keepD I₆ ev₆₈ hD₆) (ev₆₈.hasL hacc₆) (Nat.le_succ_of_le hle) (hp.2 rfl)⟩
  | true=>
   refine hG av (o.getD sl) ρ₈ s₈ I₈ _ False _ _ (FN (hp.1 rfl)) (fun y s₉ h₉=>?_) (fun hX=>hX.elim)
   clear hp
   refine ob34 h₉ fun o₉ ya ρ₉ I₉ hy ev₉ hp₉=>?_
   have ev₆₉:=ev₆₈.trans ev₉
   have hl:=hacc₆.length
   refine append_at (L.keepD I₆ ev₆₉ hD₆) (fun h'' hs hg=>?_) (BM (by rw [List.size_toArray]; exact SU hl.symm hle hi It.len hn))
   refine ⟨k,Nat.lt_succ_self k,L.add (mm:=mm) It.walks hik I₆ ev₆ st₆ hacc₆ hle (I₉.weaken wk) ev₆₉ hy ?_ (BS hs) (by rw [hg]; simp [lstO])⟩
   rw [BH]
   refine R.holds_mono (fun q hq=>?_) id (R.holds_bind hp₉)
   rw [PW,List.append_assoc]; exact hq
end
end Mine
end
section
open PySem.SeqAt
namespace Mine
section
variable {prog:Program} {w:World} {EO:Value→Shared→Prop} {F:Frm} {env:AEnv} {sl:SL} {ρ:List Addr} {s:Shared} {A:Around} {d:Nat}
theorem I9 {env:Env}:∀ (names:List (Str×NameKind)) (cs:List (Str×Addr)),(∀ p∈names,p.2=.free→∃ c,env.cells.lookup p.1=some c)→(∀ p∈cs,env.cells.lookup p.1=some p.2) →
  ∃ cl,(forIn names cs (fun (x:Str×NameKind) (r:List (Str×Addr))=>match x with | (name,kind)=>(if (kind==.free)=true then do let a ← cellOf env name; pure (ForInStep.yield ((name,a) :: r)) else pure (ForInStep.yield r):Sem (ForInStep (List (Str×Addr))))):Sem (List (Str×Addr)))=pure cl ∧
   (∀ p∈cl,env.cells.lookup p.1=some p.2)∧(∀ p∈names,p.2=.free→∃ c,(p.1,c)∈cl)∧(∀ p∈cs,p∈cl)∧(∀ p∈cl,p∈cs∨(p.1,NameKind.free)∈names)
 | [],cs,_,h2=>⟨cs,rfl,h2,fun _ h=>(nomatch h),fun _ h=>h,fun _ h=>.inl h⟩
 | (x,k) :: names,cs,h1,h2=>by
  by_cases hk:k=.free
  ·subst hk
   refine ob11 (h1 (x,.free) (by simp) rfl) fun c hc=>?_
   (refine ob15 (I9 names ((x,c) :: cs) (fun p hp=>h1 p (by simp [hp])) (fun p hp=>by
    rcases List.mem_cons.mp hp with q | q
    ·subst q; exact hc
    ·exact h2 p q)) fun cl e1 e2 e3 e4 e5=>?_)
   refine ⟨cl,?_,e2,fun p hp hf=>?_,fun p hp=>e4 p (by simp [hp]),fun p hp=>?_⟩
   ·rw [List.forIn_cons]
    have:(cellOf env x:Sem Addr)=pure c:=by unfold cellOf; rw [hc]
    simp only [beq_self_eq_true,if_true,this,pure_bind]
    exact e1
   ·rcases List.mem_cons.mp hp with q | q
    ·subst q; exact ⟨c,e4 _ (by simp)⟩
    ·exact e3 p q hf
   ·rcases e5 p hp with q | q
    ·rcases List.mem_cons.mp q with q | q
     ·subst q; exact .inr (by simp)
     ·exact .inl q
    ·exact .inr (by simp [q])
  ·refine ob15 (I9 names cs (fun p hp=>h1 p (by simp [hp])) h2) fun cl e1 e2 e3 e4 e5=>?_
   refine ⟨cl,?_,e2,fun p hp hf=>?_,e4,fun p hp=>(e5 p hp).elim .inl fun q=>.inr (by simp [q])⟩
   ·rw [List.forIn_cons]
    have:(k==NameKind.free)=false:=beq_eq_false_iff_ne.mpr hk
    simp only [this,Bool.false_eq_true,if_false,pure_bind]
    exact e1
   ·rcases List.mem_cons.mp hp with q | q
    ·subst q; exact absurd hf hk
    ·exact e3 p q hf
theorem afL {scope:Scope} {env:Env} (h:∀ p∈scope.names,p.2=.free→∃ c,env.cells.lookup p.1=some c) :
  ∃ cl,closureFor scope env=pure cl∧(∀ x c,(x,c)∈cl→env.cells.lookup x=some c)∧(∀ x,(x,NameKind.free)∈scope.names→∃ c,(x,c)∈cl)∧∀ x c,(x,c)∈cl→(x,NameKind.free)∈scope.names:=by
 refine ob15 (I9 scope.names [] h (fun _ h=>nomatch h)) fun cl e1 e2 e3 _ e5=>?_
 refine ⟨cl,?_,fun x c hx=>e2 (x,c) hx,fun x hx=>e3 (x,.free) hx rfl,fun x c hx=>(e5 (x,c) hx).elim (fun q=>nomatch q) id⟩
 unfold closureFor
 show ((forIn scope.names [] _:Sem (List (Str×Addr))) >>= fun r=>pure r)=_
 have:(forIn scope.names [] (fun (x:Str×NameKind) (r:List (Str×Addr))=>match x with | (name,kind)=>(if (kind==.free)=true then do let a ← cellOf env name; pure (ForInStep.yield ((name,a) :: r)) else pure (ForInStep.yield r):Sem (ForInStep (List (Str×Addr))))):Sem (List (Str×Addr))) >>= (fun r=>pure r)=(pure cl:Sem _):=by
  rw [e1,pure_bind]
 exact this
theorem LG {α:Type} {x:Str} {c:α}:∀ {cl:List (Str×α)},(x,c)∈cl→(∀ c',(x,c')∈cl→c'=c)→cl.lookup x=some c
 | [],h,_=>nomatch h
 | (y,a) :: cl,h,hu=>by
  rw [List.lookup_cons]
  cases e:x==y with
  | true=>
   have:=eq_of_beq e
   subst this
   rw [hu a (by simp)]
  | false=>
   rcases List.mem_cons.mp h with q | q
   ·injection q with q1 _; rw [q1,beq_self_eq_true] at e; exact nomatch e
   ·exact LG q fun c' hc=>hu c' (by simp [hc])
end
end Mine
end
section
open PySem.SeqAt
namespace Mine
section
variable {prog:Program} {w:World} {EO:Value→Shared→Prop} {F:Frm} {env:AEnv} {sl:SL} {ρ:List Addr} {s:Shared} {A:Around} {d:Nat}
theorem FZ {sc:Scope} (x:Str):∀ (env:AEnv),(EW sc env).lookup x=if sc.names.lookup x=some .cell∨sc.names.lookup x=some .free then env.lookup x else none
 | []=>by simp [EW]
 | (y,v) :: env=>by
  have ih:=FZ (sc:=sc) x env
  unfold EW at ih ⊢
  rw [List.filter_cons]
  cases e:x==y with
  | true=>
   have:=eq_of_beq e
   subst this
   by_cases h:sc.names.lookup x=some .cell∨sc.names.lookup x=some .free
   ·have hd:(decide (sc.names.lookup x=some NameKind.cell)||decide (sc.names.lookup x=some NameKind.free))=true:=by simpa using h
    simp only [hd,if_true,List.lookup_cons,beq_self_eq_true,if_pos h]
   ·have hd:(decide (sc.names.lookup x=some NameKind.cell)||decide (sc.names.lookup x=some NameKind.free))=false:=by simpa using h
    simp only [hd,Bool.false_eq_true,if_false]
    rw [ih,if_neg h,if_neg h]
  | false=>
   by_cases h:sc.names.lookup y=some .cell∨sc.names.lookup y=some .free
   ·have hd:(decide (sc.names.lookup y=some NameKind.cell)||decide (sc.names.lookup y=some NameKind.free))=true:=by simpa using h
    simp only [hd,if_true,List.lookup_cons,e]
    exact ih
   ·have hd:(decide (sc.names.lookup y=some NameKind.cell)||decide (sc.names.lookup y=some NameKind.free))=false:=by simpa using h
    simp only [hd,Bool.false_eq_true,if_false,List.lookup_cons,e]
    exact ih
theorem SV {scope:Scope} {env:Env} (h:env.scope.kind=.function):relabel scope env=A7 env.scope scope:=by
 unfold relabel A7
 congr 1
 apply List.map_congr_left
 rintro ⟨n,k⟩ _
 simp only [h,beq_self_eq_true,Bool.and_true]
 rfl
theorem OH {scope:Scope} {env:Env} {x:Str} (h:scope.names.lookup x=some .free):(relabel scope env).names.lookup x=some .cell∨(relabel scope env).names.lookup x=some .free:=by
 unfold relabel
 generalize scope.names=l at h
 induction l with
 | nil=>exact nomatch h
 | cons p l ih=>
  obtain ⟨y,k⟩:=p
  rw [List.lookup_cons] at h
  cases e:x==y with
  | true=>
   rw [e] at h
   injection h with h
   subst h
   simp only [List.map_cons]
   split
   ·left; rw [List.lookup_cons,e]
   ·right; rw [List.lookup_cons,e]
  | false=>
   rw [e] at h
   have hz:∀ q:Str×NameKind,q.1=y→List.lookup x (q :: List.map (fun (n,k)=>if (k==NameKind.free&&env.scope.kind==ScopeKind.function&&env.kindOf n==some NameKind.cell)=true then (n,NameKind.cell) else (n,k)) l)=List.lookup x (List.map (fun (n,k)=>if (k==NameKind.free&&env.scope.kind==ScopeKind.function&&env.kindOf n==some NameKind.cell)=true then (n,NameKind.cell) else (n,k)) l):=fun q hq=>by
    obtain ⟨a,b⟩:=q
    have hq:a=y:=hq
    rw [List.lookup_cons,hq,e]
   simp only [List.map_cons]
   rw [hz _ (by split<;>rfl)]
   exact ih h
theorem IC {scope:Scope} {env:Env} {x:Str} {k:NameKind} (h:(relabel scope env).names.lookup x=some k):(x,k)∈scope.names∨((x,NameKind.free)∈scope.names∧k=.cell):=by
 have h:=AF h
 unfold relabel at h
 (refine ob12 (List.mem_map.mp h) fun ζ1 h1 h2=>?_; obtain ⟨n,j⟩:=ζ1)
 dsimp only at h2
 split at h2
 ·rename_i hc
  injection h2 with e1 e2
  subst e1
  simp only [Bool.and_eq_true,beq_iff_eq] at hc
  (refine ob02 hc ?_; clear hc; intro ζ1 _; refine ob02 ζ1 ?_; clear ζ1; intro q _)
  subst q
  exact .inr ⟨h1,e2.symm⟩
 ·injection h2 with e1 e2
  subst e1 e2
  exact .inl h1
structure CompScope (outer scope:Scope) (x:Str) (iter:Expr):Prop where
 kind:scope.kind=.function
 nocell:∀ p∈scope.names,p.2≠.cell
 locals:∀ p∈scope.names,p.2=.local→scope.names.lookup p.1=some .local
 var:scope.names.lookup x=some .local
 frees:∀ p∈scope.names,p.2=.free→scope.names.lookup p.1=some .free
 outer:∀ p∈scope.names,p.2=.free→outer.names.lookup p.1=some .cell∨outer.names.lookup p.1=some .free
 set:K2 iter=true
theorem SW {outer scope:Scope} {x:Str} {iter:Expr} (h:Q3 outer scope x iter=true):CompScope outer scope x iter:=by
 unfold Q3 at h
 simp only [Bool.and_eq_true,decide_eq_true_eq,List.all_eq_true,Bool.not_eq_true',decide_eq_false_iff_not,Bool.or_eq_true] at h
 (refine ob02 h ?_; clear h; intro ζ1 h7; refine ob02 ζ1 ?_; clear ζ1; intro ζ2 h6; refine ob02 ζ2 ?_; clear ζ2; intro ζ3 h5; refine ob02 ζ3 ?_; clear ζ3; intro ζ4 h4; refine ob02 ζ4 ?_; clear ζ4; intro ζ5 h3; refine ob02 ζ5 ?_; clear ζ5; intro h1 h2)
 exact ⟨h1,h2,fun p hp e=>(h3 p hp).resolve_left fun q=>q e,h4,fun p hp e=>(h5 p hp).resolve_left fun q=>q e,fun p hp e=>by
  rcases h6 p hp with (q | q) | q
  ·exact absurd e q
  ·exact .inl q
  ·exact .inr q,h7⟩
theorem GI {G:AV→SL→RE} {sl:SL}:∀ {l:List Int},(∀ i∈l,∃ j,G (.sym i) sl=.ret (none,.sym j)) →
  (CU G (fun _ _=>.ret (none,.bool true)) (l.map .sym) sl).Holds (fun q=>q=(none,(l.map fun i=>match G (.sym i) sl with | .ret (none,.sym j)=>j | _=>0).map .sym)) False
 | [],_=>rfl
 | i :: l,h=>by
  refine ob11 (h i (by simp)) fun j hj=>?_
  have ih:=GI (l:=l) fun k hk=>h k (by simp [hk])
  show (seqL (G (.sym i) sl) sl fun v sl=>(CU G (fun _ _=>.ret (none,.bool true)) (l.map .sym) sl).bind fun q=>.ret (q.1,v :: q.2)).Holds _ _
  rw [hj]
  show ((CU G (fun _ _=>.ret (none,.bool true)) (l.map .sym) sl).bind fun q=>.ret (q.1,AV.sym j :: q.2)).Holds _ _
  refine R.holds_bind' (R.holds_mono (fun q hq=>?_) id ih)
  subst hq
  show _=_
  simp only [List.map_cons,hj]
theorem afM {ev:Ev} (hS:StOK F) (hFr:FrmOK F A) (r:Room A d)
  (hIH:∀ F':Frm,F'.base=F.base→FrmOK F' A→StOK F'→∀ env,Ok prog w EO F' env A (ev F'.env.scope env)∧OkB prog w EO F' env A (ev F'.env.scope env))
  (I:Inv prog w F env sl ρ s) {elt iter:Expr} {x:Str} {px:Pos} {ifs:List Expr} {scope:Scope} {pos:Pos} :
  Tri prog w EO F env sl ρ s A (match Q3 F.env.scope scope x iter with
  | true=>noX (seqE (ev F.env.scope env iter sl) sl fun src sl=>seqE (frzE sl src) sl fun src sl=>aeO (ev (A7 F.env.scope scope)) (EW (A7 F.env.scope scope) env) x elt ifs src sl)
  | false=>.fail) (eval (.ListComp elt [⟨.Name x px,iter,ifs,0⟩] scope pos) F.env):=fun P X Q E h hQ hE=>by
 split at h
 ·rename_i hco
  replace hco:=SW hco
  replace h:=EG h
  refine ob14 (afL (scope:=scope) (env:=F.env) fun p hp hf=>hS.cells p.1 (hco.outer p hp hf)) fun cl hclos hcl1 hcl2 hcl3=>?_
  have hset:∀ y,foldedSetIterable iter F.env y=pure y:=fun y=>by
   have:=hco.set
   cases iter<;>first | rfl | exact nomatch this
  rw [eval_ListComp]
  refine wpAny_comprehension_free (use:=none) rfl hset hclos hco.kind hco.locals ?_
  refine (hIH F rfl hFr hS env).1 iter sl ρ s I _ False _ _ (BB h) (fun xv s₁ h₁=>?_) (fun hX=>hX.elim)
  (refine ob34 h₁ ?_; clear h₁; intro o₁ src ρ₁ I₁ hsrc ev₁ hp1)
  refine ob25 (I8 I₁ hsrc (BB hp1)) fun o₂ src' I₂ hsrc' ev₂ hpu hp=>?_
  clear hp1
  dsimp only at hp
  -- everything after the source
  have core:∀ (items:List AV) (T:AV→SL→RE) (P':Option SL×List AV→Prop),SH src'=some items→items.length<10000000 →
    (∀ v sl,T v sl=aiZ (ev (A7 F.env.scope scope) (A8 x v (EW (A7 F.env.scope scope) env))) ifs sl) →
    (CU (fun v sl=>ev (A7 F.env.scope scope) (A8 x v (EW (A7 F.env.scope scope) env)) elt sl) T items (o₂.getD (o₁.getD sl))).Holds P' False →
    (∀ (s':Shared) o acc D ρ',Inv prog w F env (o.getD (o₂.getD (o₁.getD sl))) ρ' s'→Evo F (o₂.getD (o₁.getD sl)) ρ₁ s₁ (o.getD (o₂.getD (o₁.getD sl))) ρ' s'→Has prog w (Vw F (o.getD (o₂.getD (o₁.getD sl))) ρ' s'.heap) ρ' (.lst acc) (.ref D)→P' (o,acc)→Q (.ref D) s') →
    wpAny (model prog w) A (pyIter xv) (fun it s₂=>wpAny (model prog w) A (newList []) (fun acc s₃=>
     wpAny (model prog w) A (newFunctionEnv scope F.env.globals cl [] F.env.qual none .none (some F.env)) (fun cenv s₄=>
      codeAny (model prog w) A (.compStart (.ListComp elt [⟨.Name x px,iter,ifs,0⟩] scope pos) 0 it acc { cenv with scope:=relabel scope F.env }) (compPost (model prog w) A E none Q acc cenv.locals) s₄) E s₃) E s₂) E s₁:=by
   intro items T P' hit hlen hT hold hfin
   refine OG r.hand I₂ hit hsrc' fun J s₂ fp n P₀ St It=>?_
   refine wpAny_newObj_type (wpAny_newFunctionEnv hco.nocell (by intro y hy; simp at hy) (fun h₁ hns₁ hsb₁=>?_) hco.kind)
   dsimp only at hns₁ hsb₁ ⊢
   let D:=s₂.heap.objs.size
   let H2:Heap:=s₂.heap.push { cls:=.type "list",dict:=none,data:=.seq ([]:List Value).toArray }
   let Cc:=H2.objs.size
   let s₄:Shared:={ s₂ with heap:=h₁,toks:=s₂.toks+([]:List (Str×Value)).length }
   have hCs:Cc=s₂.heap.objs.size+1:=Heap.size_push ..
   have hDC:D≠Cc:=by rw [hCs]; exact Nat.ne_of_lt (Nat.lt_succ_self _)
   have old:∀ b o,s₂.heap.get? b=some o→h₁.get? b=some o:=fun b o e=>hsb₁.extBut b o (by
    have:=Heap.lt_size e
    show b≠Cc
    rw [hCs]; exact Nat.ne_of_lt (Nat.lt_succ_of_lt this)) (Heap.get?_push_of_some _ (Heap.get?_push_of_some _ e))
   have hDo:h₁.get? D=some (lstO [] 0):=hsb₁.extBut D _ hDC (Heap.get?_push_of_some _ (Heap.get?_push_size _ rfl))
   have g24:Grow s₂ s₄:=⟨old,rfl,rfl,rfl⟩
   have g14:Grow s₁ s₄:=⟨fun a o e=>old a o (It.grow.keep a o e),It.grow.gens,It.grow.drawn,It.grow.os⟩
   have fresh:∀ a,s₂.heap.get? a=none→s₁.heap.get? a=none:=fun a ha=>by
    cases e:s₁.heap.get? a with
    | none=>rfl
    | some o=>rw [It.grow.keep a o e] at ha; exact nomatch ha
   have nD:s₂.heap.get? D=none:=AJ _
   have nC:s₂.heap.get? Cc=none:=by
    cases e:s₂.heap.get? Cc with
    | none=>rfl
    | some o=>
     have hlt:=Heap.lt_size e
     rw [hCs] at hlt
     exact absurd hlt (Nat.not_lt.mpr (Nat.le_succ _))
   have neJ:∀ z,s₂.heap.get? z=none→z≠J:=fun z hz e=>by
    refine ob11 It.live fun o ho=>?_
    rw [← e,hz] at ho; exact nomatch ho
   have K:CompOK F scope cl s₁ Cc J D:=
    ⟨fun y c e=>hcl1 y c (AF e),fun y c e=>LG e fun c' hc'=>by
     have a1:=hcl1 y c e
     have a2:=hcl1 y c' hc'
     rw [a1] at a2; injection a2 with a2; exact a2.symm,fresh _ nC,It.new,fresh _ nD,neJ _ nC,hDC.symm,(neJ _ nD).symm,I₂.new_around1 It.new,I₂.new_around1 (fresh _ nD)⟩
   have hsc:(F.comp scope cl Cc J D).env.scope=A7 F.env.scope scope:=SV hFr.kind
   have kof:∀ y,(F.comp scope cl Cc J D).env.kindOf y=(A7 F.env.scope scope).names.lookup y:=fun y=>by rw [← hsc]; rfl
   have frm:FrmOK (F.comp scope cl Cc J D) A:=⟨hco.kind,hFr.glob,hFr.blt,ob12 hFr.frames fun l e1 e2=>⟨l,e1,fun e he=>ob02 (e2 e he) fun q1 ζ1=>ob12 ζ1 fun L q2 q3=>⟨q1,L,q2,.inl q3⟩⟩⟩
   have sto:StOK (F.comp scope cl Cc J D):=⟨hco.kind,fun y z c e1 e2=>hS.apart y z c (K.sub y c e1) (K.sub z c e2),fun y hy=>by
    have:(y,NameKind.free)∈scope.names:=by
     rcases hy with hy | hy
     ·rcases IC hy with q | ⟨q,_⟩
      ·exact absurd rfl (hco.nocell _ q)
      ·exact q
     ·rcases IC hy with q | ⟨_,q⟩
      ·exact q
      ·exact nomatch q
    refine ob11 (hcl2 y this) fun c hc=>?_
    exact ⟨c,K.mem y c hc⟩⟩
   have hxl:(F.comp scope cl Cc J D).env.scope.names.lookup x=some .local:=lookup_relabel_local hco.var
   have hcx:(EW (A7 F.env.scope scope) env).lookup x=none:=by
    rw [FZ,if_neg]
    rw [← hsc,hxl]
    rintro (q | q)<;>exact nomatch q
   have capIn:∀ y av,(EW (A7 F.env.scope scope) env).lookup y=some av→env.lookup y=some av∧((F.comp scope cl Cc J D).env.kindOf y=some .cell∨(F.comp scope cl Cc J D).env.kindOf y=some .free)∧∃ c,cl.lookup y=some c∧(F.env.kindOf y=some .cell∨F.env.kindOf y=some .free):=fun y av e=>by
    rw [FZ] at e
    split at e
    ·rename_i hk
     have hk':(F.comp scope cl Cc J D).env.kindOf y=some .cell∨(F.comp scope cl Cc J D).env.kindOf y=some .free:=by rw [kof]; exact hk
     refine ob11 (sto.cells y hk') fun c hc=>?_
     exact ⟨e,hk',c,hc,hco.outer (y,.free) (hcl3 y c (AF hc)) rfl⟩
    ·exact nomatch e
   have capOut:∀ y c av,env.lookup y=some av→cl.lookup y=some c→(EW (A7 F.env.scope scope) env).lookup y=some av∧((F.comp scope cl Cc J D).env.kindOf y=some .cell∨(F.comp scope cl Cc J D).env.kindOf y=some .free):=fun y c av e1 e2=>by
    have hk:(F.comp scope cl Cc J D).env.kindOf y=some .cell∨(F.comp scope cl Cc J D).env.kindOf y=some .free:=OH (hco.frees (y,.free) (hcl3 y c (AF e2)) rfl)
    refine ⟨?_,hk⟩
    rw [FZ,if_pos (by rw [← kof]; exact hk)]
    exact e1
   have Ic:Inv prog w (F.comp scope cl Cc J D) (EW (A7 F.env.scope scope) env) (o₂.getD (o₁.getD sl)) ρ₁ s₄:=
    I₂.comp K g14 hns₁ (ob11 It.live fun o e=>⟨o,old J o e⟩) ⟨_,hDo⟩ capIn
   have evc:Evo (F.comp scope cl Cc J D) (o₂.getD (o₁.getD sl)) ρ₁ s₁ (o₂.getD (o₁.getD sl)) ρ₁ s₄:=⟨fun a o e _=>.of (g14.keep a o e),g14.gens,g14.drawn,g14.os,fun _ _ e=>e,fun _ h=>.inl h,fun a o e=>⟨o,g14.keep a o e⟩⟩
   have hst₄:St 0 h₁:=It.walks.frame _ _ _ It.st fun b _ o e=>old b o e
   have ih:=fun env=>hIH (F.comp scope cl Cc J D) rfl frm sto env
   rw [hsc] at ih
   have loop:codeAny (model prog w) A (.compLoop (.ListComp elt [⟨.Name x px,iter,ifs,0⟩] scope pos) 0 (.ref J) (.ref D) (F.comp scope cl Cc J D).env) (compPost (model prog w) A E none Q (.ref D) Cc) s₄:=by
    refine WG (EO:=EO) (aqL K It) It sto (by unfold CD; rw [hxl]) hcx hlen (T:=T) (G:=fun v sl=>ev (A7 F.env.scope scope) (A8 x v (EW (A7 F.env.scope scope) env)) elt sl) ?_ (fun av sl ρ s I=>(ih _).1 elt sl ρ s I) ?_ Ic evc hst₄ hDo hold
    ·intro av sl ρ s I
     rw [hT]
     match ifs with
     | []=>exact fun P X Q E h hQ _=>wpAny_tests_nil (hQ _ _ (A9 I (.tok s.toks) (av:=.bool true) rfl h.2))
     | [t]=>exact fun P X Q E h hQ hE=>wpAny_tests_one ((ih _).2 t sl ρ s I P X Q E h hQ hE)
     | _ :: _ :: _=>exact fun P X Q E h _ _=>h.elim
    ·intro s' s₉ o acc outs mm ρ' I' ev' hD' hacc hp' kp' hg' hd' ho'
     refine ob12 I'.ns fun m' hm' _=>?_
     have hCJ:Cc≠J:=K.neCJ
     refine ⟨m',hm'.at fun o e=>kp' _ o hCJ e,fun h'' hs''=>?_⟩
     have kpp:∀ a ob,a≠Cc→a≠J→s'.heap.get? a=some ob→h''.get? a=some ob:=fun a ob n1 n2 e=>hs''.extBut a ob n1 (kp' a ob n2 e)
     refine ob03 (I₂.uncomp K I' ev' hS.apart capOut (s₉:={ s₉ with heap:=h'' }) kpp hg' hd' ho') fun f1 f2 f3=>?_
     have hDn:h''.get? D=some (lstO outs mm):=kpp D _ hDC (neJ _ nD) hD'
     have hbad:¬ Bad F (o.getD (o₂.getD (o₁.getD sl))) ρ' D:=fun q=>by
      rcases q with q | q | ⟨y,q⟩ | q
      ·exact I₂.fresh (fresh _ nD) (.inl q)
      ·exact I₂.fresh (fresh _ nD) (.inr (.inl q))
      ·exact I₂.fresh (fresh _ nD) (.inr (.inr (.inl ⟨y,q⟩)))
      ·exact (I'.ownNe _ q).2.2 (.inr (.inr (.inr (.inr rfl))))
     have hsm:(D==sysModules)=false:=I₂.notSm (by
      cases e:F.base.get? D with
      | none=>rfl
      | some o=>have:=I₂.base _ o e; rw [fresh _ nD] at this; exact nomatch this)
     exact hfin _ o acc D ρ' f1 f2 ⟨D,outs,mm,rfl,⟨hDn,hbad,hsm⟩,HasL.mono prog w f3 (fun _ _ e=>e) _ _ hacc⟩ hp'
   exact codeAny_compStart_list loop (It.walks.self 0 _ _ _ hst₄ loop)
  unfold aeO at hp
  split at hp
  ·rename_i l
   (refine ob02 hp ?_; clear hp; intro ζ1 hp; refine ob02 ζ1 ?_; clear ζ1; intro hlen hall)
   refine core (l.map .sym) (fun _ _=>.ret (none,.bool true)) _ rfl (by simpa using hlen) (fun v sl=>rfl) (GI hall) fun s' o acc D ρ' I' ev' hh hq=>?_
   injection hq with q1 q2
   subst q1 q2
   (refine ob33 hh ?_; clear hh; intro a vs n e hv hl)
   exact hQ _ _ (QE.after ev₁ (QE.after ev₂ ⟨none,.ints _,ρ',I',⟨a,vs,n,e,hv,G6 hl⟩,ev',hp⟩))
  ·split at hp
   ·rename_i items hit
    refine ob02 (AA hp) fun hz hp=>?_
    refine core items _ _ hit (BR hz) (fun v sl=>rfl) (BJ hp) fun s' o acc D ρ' I' ev' hh hq=>?_
    exact hQ _ _ (QE.after ev₁ (QE.after ev₂ ⟨o,.lst acc,ρ',I',hh,ev',by
     have hq:P (B9 o₁ (B9 o₂ (B9 o none)),AV.lst acc):=hq
     rw [LF] at hq; exact hq⟩))
   ·exact hp.elim
 ·exact h.elim
end
end Mine
end
section
open PySem.SeqAt
namespace Mine
section
variable {prog:Program} {w:World} {EO:Value→Shared→Prop} {F:Frm} {env:AEnv} {sl:SL} {ρ:List Addr} {s:Shared} {A:Around} {d:Nat}
theorem Tri.eq {x y:RE} {t:Sem Value} (h:Tri prog w EO F env sl ρ s A x t) (e:y=x):Tri prog w EO F env sl ρ s A y t:=e ▸ h
theorem aaF {ev:Expr→SL→RE} (hev:Ok prog w EO F env A ev) (I:Inv prog w F env sl ρ s) {l r:Expr} {op:Operator} {pos:Pos} :
  Tri prog w EO F env sl ρ s A (seqE (ev l sl) sl fun a sl=>seqE (ev r sl) sl fun b _=>DC (binA op a b)) (eval (.BinOp l op r pos) F.env):=fun P X Q E h hQ hE=>by
 refine wpAny_BinOp (hev l sl ρ s I _ X _ _ (BB h) (fun v s₁ h₁=>?_) hE)
 (refine ob34 h₁ ?_; clear h₁; intro o₁ a ρ₁ I₁ ha ev₁ hp)
 refine hev r _ ρ₁ s₁ I₁ _ X _ _ (BB hp) (fun u s₂ h₂=>?_) (hE.after ev₁)
 (refine ob34 h₂ ?_; clear h₂; intro o₂ b ρ₂ I₂ hb ev₂ hp₂)
 have hp₂:=BL hp₂
 exact SJ I₂ (ev₂.has ha) hb hp₂ fun v s' av cm hv hp=>hQ _ _ (QE.after ev₁ (QE.after ev₂ (A9 I₂ cm hv hp)))
theorem afN {ev:Expr→SL→RE} (hev:Ok prog w EO F env A ev) (I:Inv prog w F env sl ρ s) {x:Expr} {op:UnaryOp} {pos:Pos} :
  Tri prog w EO F env sl ρ s A (seqE (ev x sl) sl fun a _=>DC (unA op a)) (eval (.UnaryOp op x pos) F.env):=fun P X Q E h hQ hE=>by
 refine wpAny_UnaryOp (hev x sl ρ s I _ X _ _ (BB h) (fun v s₁ h₁=>?_) hE)
 (refine ob34 h₁ ?_; clear h₁; intro o₁ a ρ₁ I₁ ha ev₁ hp)
 have hp:=BL hp
 exact VO ha hp fun v s' av cm hv hp=>hQ _ _ (QE.after ev₁ (A9 I₁ cm hv hp))
def aaG (prog:Program) (w:World) (EO:Value→Shared→Prop) (G:Heap) (A:Around) (ev:Ev):Prop:=
 ∀ F:Frm,F.base=G→FrmOK F A→StOK F→∀ env,Ok prog w EO F env A (ev F.env.scope env)∧OkB prog w EO F env A (ev F.env.scope env)
theorem MI {α:Type} {m:List α} {p:α×List α} (h:ZP m=some p):m=p.1 :: p.2:=by
 cases m with
 | nil=>exact A0 h
 | cons x r=>rw [← Option.some.inj h]
theorem aaH {C:Ctx} (hF:FOK F C prog w A) {ev:Expr→SL→RE} (hev:Ok prog w EO F env A ev) (r:Room A d) (I:Inv prog w F env sl ρ s) {f:Str} {args:List Expr} {p pos:Pos}
  (hg:F.env.scope.names.lookup f=some .globalImplicit) (hd:(f==("__debug__" : Str))=false) (hns:CG args=true) :
  Tri prog w EO F env sl ρ s A (ajA C d ev env f args sl) (eval (.Call (.Name f p) args [] pos) F.env):=by
 intro P X Q E h hQ hE
 refine DD h (fun wf hk h=>?_) fun _ h=>DD h (fun fn hk h=>?_) fun _ h=>AX h fun k hk h=>aaB hF hev r I hk hg hd hns P X Q E h hQ hE
 ·refine AX h fun q eq h=>AX h fun v ev h=>IQ h fun n en h=>ob02 (AA h) fun hz h=>?_
  rw [en] at ev
  rw [MI eq] at hns ⊢
  exact aaD hF hev r I hk (BR (Bool.and_eq_true_iff.mp hz).2) hg hd (Bool.and_eq_true_iff.mp hz).1 ev hns P X Q E h hQ hE
 ·exact ob02 (AA h) fun hb h=>aaC hF hev r I hk (BR hb) hg hd hns P X Q E h hQ hE
theorem aaI {ev:Expr→SL→RE} (hev:Ok prog w EO F env A ev) (hevH:∀ d,Ok prog w EO (F.hide d) env A ev) (I:Inv prog w F env sl ρ s) {o:Expr} {m:Str} {args:List Expr} {apos pos:Pos} :
  Tri prog w EO F env sl ρ s A (aeP ev o m apos pos args sl) (eval (.Call (.Attribute o m apos) args [] pos) F.env):=by
 unfold aeP
 split
 ·rename_i k hk hc
  simp only [Bool.and_eq_true] at hc
  (refine ob02 hc ?_; clear hc; intro ζ1 c4; refine ob02 ζ1 ?_; clear ζ1; intro ζ2 c3; refine ob02 ζ2 ?_; clear ζ2; intro c1 c2)
  have hL:=fun sl ρ s I=>GH hev pos args sl ρ s I
  have hO:=fun sl ρ s I=>OE hev hevH pos args sl ρ s I
  cases k
  ·exact FW hev I hk c1 c2 (BR c3) c4 hL
  ·exact FW hev I hk c1 c2 (BR c3) c4 hL
  ·exact FW hev I hk c1 c2 (BR c3) c4 hL
  ·exact FW hev I hk c1 c2 (BR c3) c4 hL
  ·exact FW hev I hk c1 c2 (BR c3) c4 hL
  ·exact FW hev I hk c1 c2 (BR c3) c4 hO
 ·exact Tri.fail
theorem aaJ {C:Ctx} (hF:FOK F C prog w A) {ev:Expr→SL→RE} (hev:Ok prog w EO F env A ev) (r:Room A d) (I:Inv prog w F env sl ρ s) {f:Str} {args:List Expr} {p pos:Pos} :
  Tri prog w EO F env sl ρ s A (aeQ C d ev F.env.scope env f args sl) (eval (.Call (.Name f p) args [] pos) F.env):=by
 unfold aeQ
 split
 ·exact Tri.fail
 ·split
  ·rename_i hg hc
   simp only [Bool.and_eq_true,Bool.not_eq_true'] at hc
   exact aaH hF hev r I hg hc.2 hc.1
  ·exact Tri.fail
theorem afP {C:Ctx} {ev:Ev} (hF:FOK F C prog w A) (hS:StOK F) (r:Room A d) (hIH:aaG prog w EO F.base A ev) (I:Inv prog w F env sl ρ s) {elt:Expr} {gens:List Comprehension} {scope:Scope} {pos:Pos} :
  Tri prog w EO F env sl ρ s A (genA ev F.env.scope env elt gens scope sl) (eval (.ListComp elt gens scope pos) F.env):=fun P X Q E h hQ hE=>by
 refine AX h fun g eg h=>AX h fun x ex h=>ob02 (AA h) fun ha h=>?_
 obtain ⟨t,it,ifs,as⟩:=g
 refine ob11 (FV ex) fun px et=>?_
 rw [PT eg,show t=.Name x px from et,show as=0 from eq_of_beq ha]
 exact afM hS hF.frm r (fun F' hb hf hs env=>hIH F' hb hf hs env) I P X Q E h hQ hE
theorem RM {C:Ctx} {ev:Ev} (hF:FOK F C prog w A) (hS:StOK F) (r:Room A d) (hIH:aaG prog w EO F.base A ev) (I:Inv prog w F env sl ρ s) (e:Expr) :
  Tri prog w EO F env sl ρ s A (aeR C d ev F.env.scope env e sl) (eval e F.env):=by
 have hev:=(hIH F rfl hF.frm hS env).1
 have hB:=(hIH F rfl hF.frm hS env).2
 have hevH:∀ d,Ok prog w EO (F.hide d) env A (ev F.env.scope env):=fun d=>(hIH (F.hide d) rfl ⟨hF.frm.kind,hF.frm.glob,hF.frm.blt,hF.frm.frames⟩ ⟨hS.kind,hS.apart,hS.cells⟩ env).1
 cases e with
 | Constant c k pos=>
  cases c with
  | none=>exact Tri.ret I fun Q E h=>wpAny_Constant_none (h _ _ (.tok s.toks) rfl)
  | bool b=>exact Tri.ret I fun Q E h=>wpAny_Constant_bool (h _ _ (.tok s.toks) rfl)
  | int i=>exact Tri.ret I fun Q E h=>wpAny_Constant_int (h _ _ (.tok _) ⟨_,rfl⟩)
  | str x=>exact Tri.ret I fun Q E h=>wpAny_Constant_str (h _ _ (.tok _) ⟨_,rfl⟩)
  | _=>exact Tri.fail
 | Name x pos=>exact fun P X Q E h hQ hE=>afC hF I h hQ
 | BinOp l op r' pos=>exact aaF hev I
 | UnaryOp op x pos=>exact afN hev I
 | BoolOp op vs pos=>exact RG hev pos op vs sl ρ s I
 | Compare l ops rs pos=>
  intro P X Q E h hQ hE
  rw [arm_eval_Compare]
  exact wpAny_bind (Tri.seq (u:=fun v=>compareChain pos v ops (markedEach ops rs (evalEach rs F.env))) (hev l sl ρ s I) (fun v av sl₁ ρ₁ s₁ I₁ hv ev₁=>V0 hev r pos ops rs av v sl₁ ρ₁ s₁ I₁ hv) h hQ hE)
 | IfExp t b o pos=>exact Z8 hev hB I
 | List elts pos=>exact afD hev I
 | Tuple elts k pos=>exact Z5 hev I
 | Dict keys values pos=>exact afG hevH I
 | Subscript v i pos=>
  cases i with
  | Slice l u t p=>exact aaA hev I
  | _=>exact ajI hev I (fun _ _ _ _ h=>nomatch h)
 | Call f args kws pos=>
  cases kws with
  | cons k ks=>cases f<;>exact Tri.fail
  | nil=>
   cases f with
   | Attribute o m apos=>exact aaI hev hevH I
   | Name f p=>exact aaJ hF hev r I
   | _=>exact Tri.fail
 | ListComp elt gens scope pos=>exact afP hF hS r hIH I
 | _=>exact Tri.fail
end
end Mine
end
section
open PySem.SeqAt
namespace Mine
section
variable {prog:Program} {w:World} {EO:Value→Shared→Prop} {F:Frm} {env:AEnv} {sl:SL} {ρ:List Addr} {s:Shared} {A:Around} {d:Nat}
theorem TriB.value {x:RE} {e:Expr} {t:Sem Value} (h:Tri prog w EO F env sl ρ s A x t) (he:isTrue e F.env t=(do let v ← t; standAt e.pos; holding [v] (truthy v))):TriB prog w EO F env sl ρ s A x (isTrue e F.env t):=
 fun P X Q E hh hQ hE=>by
  refine wpAny_isTrue_value (h _ X _ _ hh (fun v s' hq=>?_) hE) he
  (refine ob35 hq ?_; clear hq; intro o av ρ' h1 h2 h3 h4 h5)
  refine ob22 (GY h4 h2) fun b c _ e=>?_
  subst e
  exact wpAny_truthy_bool (hQ _ _ ⟨o,av,ρ',h1,h2,h3,h5⟩)
theorem afQ {ev:Expr→SL→RE} (hB:OkB prog w EO F env A ev) (I:Inv prog w F env sl ρ s) {x:Expr} {pos:Pos} :
  TriB prog w EO F env sl ρ s A (seqE (ev x sl) sl fun a _=>DC (unA .Not a)) (isTrue (.UnaryOp .Not x pos) F.env (eval (.UnaryOp .Not x pos) F.env)):=fun P X Q E h hQ hE=>by
 show wpAny _ _ (do let b ← isTrue x F.env (eval x F.env); pure (!b)) _ _ _
 refine wpAny_bind (hB x sl ρ s I (fun p=>(DC (unA .Not p.2)).Holds (fun q=>P (B9 p.1 q.1,q.2)) X) X _ _ (R.holds_mono (fun p hp=>?_) id (BB h)) (fun b s₁ h₁=>?_) hE)
 ·constructor
  ·exact AX (o:=AQ p.2) (BL hp) fun b e _=>by rw [e]; rfl
  ·exact R.holds_mono (fun q hq=>hq.2) id hp
 ·refine ob34 h₁ fun o av ρ₁ I₁ hv ev₁ hp=>AX (o:=AQ av) (BL hp) fun c e hp=>?_
  have hv:=BP (i:=c.1) (b:=c.2) e hv
  rw [Value.bool.inj hv]
  exact wpAny_pure (hQ _ _ (QE.after ev₁ (A9 I₁ (.tok s₁.toks) (GV _ _) hp)))
theorem WH {C:Ctx} {ev:Ev} (hF:FOK F C prog w A) (hS:StOK F) (r:Room A d) (hIH:aaG prog w EO F.base A ev) (I:Inv prog w F env sl ρ s) (e:Expr) :
  TriB prog w EO F env sl ρ s A (aeR C d ev F.env.scope env e sl) (isTrue e F.env (eval e F.env)):=by
 have hev:=(hIH F rfl hF.frm hS env).1
 have hB:=(hIH F rfl hF.frm hS env).2
 have main:=RM hF hS r hIH I e
 cases e with
 | UnaryOp op x pos=>
  cases op with
  | Not=>exact afQ hB I
  | _=>exact TriB.value main rfl
 | BoolOp op vs pos=>exact OB hB op vs sl ρ s I
 | IfExp t b o pos=>exact V7 hB I
 | Compare l ops rs pos=>
  intro P X Q E h hQ hE
  show wpAny _ _ (do testChain pos (← eval l F.env) ops (markedEach ops rs (evalEach rs F.env))) _ _ _
  exact wpAny_bind (TriB.seq (u:=fun v=>testChain pos v ops (markedEach ops rs (evalEach rs F.env))) (hev l sl ρ s I) (fun v av sl₁ ρ₁ s₁ I₁ hv ev₁=>RH hev r pos ops rs av v sl₁ ρ₁ s₁ I₁ hv) h hQ hE)
 | _=>exact TriB.value main rfl
theorem F5 {C:Ctx} {G:Heap} (hG:GOK prog w C G) (r:Room A d):∀ n:Nat,aaG prog w EO G A (FA C d n)
 | 0,F,_,_,_,env=>⟨fun e sl ρ s I=>Tri.fail,fun e sl ρ s I P X Q E h _ _=>h.elim⟩
 | n+1,F,hb,hf,hs,env=>by
  subst hb
  exact ⟨fun e sl ρ s I=>RM ⟨hf,hG⟩ hs r (F5 hG r n) I e,fun e sl ρ s I=>WH ⟨hf,hG⟩ hs r (F5 hG r n) I e⟩
end
end Mine
end
section
open PySem.SeqAt
namespace Mine
section
variable {prog:Program} {w:World} {EO:Value→Shared→Prop} {F:Frm} {env:AEnv} {sl:SL} {ρ:List Addr} {s:Shared} {A:Around} {d:Nat}
noncomputable def DS:List Str→List AV→AEnv→AEnv
 | x :: xs,v :: vs,env=>DS xs vs (A8 x v env)
 | _,_,env=>env
theorem WI {e:Expr} {vs:List Expr} (h:tupE e=some vs):∃ k p,e=.Tuple vs k p:=by
 cases e<;>first | exact A0 h | exact ⟨_,_,by rw [Option.some.inj h]⟩
theorem RN {α:Type} {b:Bool} {x r:α} (h:(bif b then some x else none)=some r):b=true∧x=r:=by
 cases b with
 | true=>exact ⟨rfl,Option.some.inj h⟩
 | false=>exact nomatch h
theorem RO {sc:Scope} {t:Expr} {v:AV} {env env':AEnv} (h:ZQ sc t v env=some env'):∃ x p,t=.Name x p∧CD sc x=true∧A8 x v env=env':=
 AS h fun x e h=>ob11 (FV e) fun p e=>ob02 (RN h) fun h1 h2=>⟨x,p,e,h1,h2⟩
theorem FG {sc:Scope}:∀ {ts:List Expr} {vs:List AV} {env env':AEnv},K3 sc ts vs env=some env'→∃ xs,D8 ts=some xs∧xs.length=vs.length∧ts.length=vs.length∧env'=DS xs vs env∧∀ x∈xs,CD sc x=true
 | [],vs,env,env',h=>ob02 (RN h) fun h1 h2=>by
  rw [List.isEmpty_iff.mp h1,← h2]
  exact ⟨[],rfl,rfl,rfl,rfl,fun _ h=>nomatch h⟩
 | t :: ts,vs,env,env',h=>by
  cases vs with
  | nil=>exact A0 h
  | cons v vs=>
   refine AS (o:=ZQ sc t v env) h fun e1 hb h=>ob23 (RO hb) fun x p et hc e2=>ob15 (FG h) fun xs h1 h2 h3 h4 h5=>?_
   rw [et]
   refine ⟨x :: xs,by show (D8 ts).bind (fun l=>some (x :: l))=_; rw [h1]; rfl,congrArg Nat.succ h2,congrArg Nat.succ h3,by rw [h4,← e2]; rfl,fun y hy=>?_⟩
   exact (List.mem_cons.mp hy).elim (fun q=>q ▸ hc) (h5 y)
theorem ID:∀ (xs:List Str) (vs:List AV) (e e':AEnv),(∀ w,e.lookup w=e'.lookup w)→∀ w,(DS xs vs e).lookup w=(DS xs vs e').lookup w
 | [],[],_,_,he,w=>he w
 | [],_ :: _,_,_,he,w=>he w
 | _ :: _,[],_,_,he,w=>he w
 | _ :: r,_ :: q,_,_,he,w=>ID r q _ _ (fun w=>by rw [AY,AY,he]) w
theorem HG {x y:Str} {v:AV}:∀ {xs:List Str} {vs:List AV} {env:AEnv},x ∉ xs→(DS xs vs (A8 x v env)).lookup y=if y=x then some v else (DS xs vs env).lookup y
 | [],[],env,_=>AY x y v env
 | [],_ :: _,env,_=>AY x y v env
 | _ :: _,[],env,_=>AY x y v env
 | z :: xs,u :: vs,env,h=>by
  have hz:z≠x:=fun q=>h (by simp [q])
  have hx:x ∉ xs:=fun q=>h (by simp [q])
  show (DS xs vs (A8 z u (A8 x v env))).lookup y=if y=x then some v else (DS xs vs (A8 z u env)).lookup y
  rw [ID xs vs (A8 z u (A8 x v env)) (A8 x v (A8 z u env)) (fun w=>by
   rw [AY,AY,AY,AY]
   by_cases h1:w=z
   ·subst h1; simp [hz]
   ·simp [h1]) y]
  exact HG hx
theorem JA {x:Str} {v:AV}:∀ {xs:List Str} {vs:List AV} {env:AEnv},xs.length=vs.length→DS (xs++[x]) (vs++[v]) env=A8 x v (DS xs vs env)
 | [],[],_,_=>rfl
 | _ :: xs,_ :: vs,env,h=>JA (xs:=xs) (vs:=vs) (by simpa using h)
 | [],_ :: _,_,h=>by simp at h
 | _ :: _,[],_,h=>by simp at h
theorem GJ {y:Str}:∀ {xs:List Str} {vs:List AV} {env:AEnv},xs.Nodup→xs.length=vs.length→(DS xs.reverse vs.reverse env).lookup y=(DS xs vs env).lookup y
 | [],[],_,_,_=>rfl
 | [],_ :: _,_,_,h=>by simp at h
 | _ :: _,[],_,_,h=>by simp at h
 | x :: xs,v :: vs,env,hn,h=>by
  have hn:=List.nodup_cons.mp hn
  rw [List.reverse_cons,List.reverse_cons,JA (by simpa using h),AY]
  show _=(DS xs vs (A8 x v env)).lookup y
  rw [HG hn.1,GJ hn.2 (by simpa using h)]
theorem JB (hS:StOK F) {f:Str→Value→Sem Unit} (hf:∀ x v s (Q:Unit→Shared→Prop) (E:Value→Shared→Prop),wpAny (model prog w) A (storeName F.env x v) Q E s→wpAny (model prog w) A (f x v) Q E s) :
  ∀ (xs:List Str) (vs:List Value) (avs:List AV) (env:AEnv) (s:Shared),xs.length=avs.length→Inv prog w F env sl ρ s→(∀ x∈xs,CD F.env.scope x=true)→HasL prog w (Vw F sl ρ s.heap) ρ avs vs →
   ∀ {Q:Unit→Shared→Prop} {E:Value→Shared→Prop},(∀ s',Inv prog w F (DS xs avs env) sl ρ s'→Evo F sl ρ s sl ρ s'→Q () s')→wpAny (model prog w) A (assignInOrder (xs.map f) vs) Q E s
 | []=>fun vs avs env s hl I _ hv Q E hQ=>by
  rw [List.length_eq_zero_iff.mp hl.symm] at hv hQ
  rw [show vs=[] from hv]
  exact wpAny_assignInOrder_none (hQ s I (.refl ..))
 | x :: xs=>fun vs avs env s h I hc hv Q E hQ=>by
  cases avs with
  | nil=>exact Nat.noConfusion h
  | cons av avs=>
  refine ob23 hv fun v r e h1 h2=>?_
  rw [e]
  refine wpAny_assignInOrder_more (hf x v s _ _ (FX hS I (hc x (by simp)) h1 fun s₁ I₁ ev₁=>?_))
  exact JB hS hf xs r avs _ s₁ (Nat.succ.inj h) I₁ (fun y hy=>hc y (by simp [hy])) (ev₁.hasL h2) fun s' I' ev'=>hQ s' I' (ev₁.trans ev')
theorem EZ {F:Frm}:∀ {ts:List Expr} {xs:List Str},D8 ts=some xs→∃ ps:List (Str×Pos),ps.map (·.1)=xs∧(assignEach ts F.env)=ps.map fun p=>(false,assign (.Name p.1 p.2) F.env)
 | []=>fun h=>⟨[],Option.some.inj h,rfl⟩
 | t :: ts=>fun h=>AS h fun x ex h=>AS h fun l e h=>ob11 (FV ex) fun p et=>ob12 (EZ (F:=F) e) fun ps h1 h2=>by
  rw [et,← Option.some.inj h]
  refine ⟨(x,p) :: ps,by rw [List.map_cons,h1],?_⟩
  rw [show assignEach (.Name x p :: ts) F.env=(false,assign (.Name x p) F.env) :: assignEach ts F.env from rfl,h2]; rfl
theorem HH (hS:StOK F):∀ (ps:List (Str×Pos)) (vs:List Value) (avs:List AV) (env:AEnv) (s:Shared),ps.length=avs.length→Inv prog w F env sl ρ s→(∀ p∈ps,CD F.env.scope p.1=true)→HasL prog w (Vw F sl ρ s.heap) ρ avs vs →
   ∀ {Q:Unit→Shared→Prop} {E:Value→Shared→Prop},(∀ s',Inv prog w F (DS (ps.map (·.1)) avs env) sl ρ s'→Evo F sl ρ s sl ρ s'→Q () s')→wpAny (model prog w) A (assignInOrder (ps.map fun p=>assign (.Name p.1 p.2) F.env) vs) Q E s
 | []=>fun vs avs env s hl I _ hv Q E hQ=>by
  rw [List.length_eq_zero_iff.mp hl.symm] at hv hQ
  rw [show vs=[] from hv]
  exact wpAny_assignInOrder_none (hQ s I (.refl ..))
 | p :: ps=>fun vs avs env s h I hc hv Q E hQ=>by
  cases avs with
  | nil=>exact Nat.noConfusion h
  | cons av avs=>
  refine ob23 hv fun v r e h1 h2=>?_
  rw [e]
  refine wpAny_assignInOrder_more (G1 hS I (hc p (by simp)) h1 fun s₁ I₁ ev₁=>?_)
  exact HH hS ps r avs _ s₁ (Nat.succ.inj h) I₁ (fun y hy=>hc y (by simp [hy])) (ev₁.hasL h2) fun s' I' ev'=>hQ s' I' (ev₁.trans ev')
theorem GK (hh:A.handled=none) (I:Inv prog w F env sl ρ s) {av:AV} {l:List AV} {v:Value} (hv:Has prog w (Vw F sl ρ s.heap) ρ av v) (ha:av=.tup l∨av=.lst l) {Q:List Value→Shared→Prop} {E:Value→Shared→Prop}
  (hQ:∀ vs s',Calm F sl ρ s s'→HasL prog w (Vw F sl ρ s'.heap) ρ l vs→Q vs s'):wpAny (model prog w) A (unpackItems v l.length none) Q E s:=by
 have fin:∀ vs h',Heap.ExtBut s.heap.objs.size s.heap h'→HasL prog w (Vw F sl ρ s.heap) ρ l vs→Q vs { s with heap:=h' }:=fun vs h' he hl=>by
  have c:Calm F sl ρ s { s with heap:=h' }:=⟨fun a o e=>he a o (Nat.ne_of_lt (Heap.lt_size e)) e,rfl,rfl,rfl⟩
  exact hQ vs _ c (c.evo.hasL hl)
 rcases ha with rfl | rfl
 ·(refine ob33 hv ?_; clear hv; intro a vs n ζ1 hv hl; subst ζ1)
  have:=wpAny_unpackItems_tuple (prog:=prog) (w:=w) (A:=A) (E:=E) (Q:=Q) hh (⟨_,hv.1,rfl,n,rfl⟩:s.heap.IsTuple a vs.toArray) fun h' he=>by simpa using fin vs h' he hl
  rw [List.size_toArray,hl.length] at this
  exact this
 ·(refine ob33 hv ?_; clear hv; intro a vs n ζ1 hv hl; subst ζ1)
  have:=kun_itemsOf (prog:=prog) (w:=w) (A:=A) (E:=E) (Q:=Q) hh (⟨_,hv.1,rfl,n,rfl⟩:s.heap.IsList a vs.toArray) fun h' he=>by simpa using fin vs h' he hl
  rw [List.size_toArray,hl.length] at this
  exact this
theorem MJ (hS:StOK F) (hh:A.handled=none) (I:Inv prog w F env sl ρ s) {t:Expr} {av:AV} {v:Value} {env':AEnv} (h:ED F.env.scope t av env=some env') (hv:Has prog w (Vw F sl ρ s.heap) ρ av v) {Q:Unit→Shared→Prop} {E:Value→Shared→Prop}
  (hQ:∀ s',Inv prog w F env' sl ρ s'→Evo F sl ρ s sl ρ s'→Q () s'):wpAny (model prog w) A (assign t F.env v) Q E s:=by
 unfold ED at h
 cases et:tupE t with
 | none=>
  rw [et] at h
  refine ob23 (RO h) fun x p e hc e2=>?_
  rw [e]
  rw [← e2] at hQ
  exact G1 hS I hc hv hQ
 | some ts=>
  rw [et] at h
  refine ob21 (WI et) fun k p e=>?_
  rw [e]
  have main:∀ l,(av=.tup l∨av=.lst l)→K3 F.env.scope ts l env=some env'→wpAny (model prog w) A (assign (.Tuple ts k p) F.env v) Q E s:=fun l ha hb=>by
   refine ob15 (FG hb) fun xs h1 h2 h3 h4 h5=>?_
   refine ob12 (EZ (F:=F) h1) fun ps p1 p2=>?_
   have hpl:ps.length=l.length:=by rw [← h2,← p1,List.length_map]
   rw [arm_assign_Tuple]
   refine wpAny_bind (wpAny_standAt ?_)
   unfold unpack
   rw [p2]
   have e1:(ps.map fun p=>(false,assign (.Name p.1 p.2) F.env)).findIdx? (·.1)=none:=by
    rw [List.findIdx?_eq_none_iff]
    intro x hx
    (refine ob12 (List.mem_map.mp hx) fun q _ ζ1=>?_; subst ζ1)
    rfl
   rw [e1,List.length_map,hpl]
   refine wpAny_bind (wpAny_holding (GK hh I hv ha fun vs s₁ c hl=>?_))
   rw [List.map_map]
   refine HH hS ps vs l env s₁ hpl (I.calm c) (fun q hq=>h5 _ (by rw [← p1]; exact List.mem_map.mpr ⟨q,hq,rfl⟩)) hl fun s' I' ev'=>hQ s' ?_ (c.evo.trans ev')
   rw [h4,← p1]; exact I'
  refine AS h fun l el h=>main l ?_ h
  cases av<;>first | exact A0 el | exact .inl (congrArg AV.tup (Option.some.inj el)) | exact .inr (congrArg AV.lst (Option.some.inj el))
end
end Mine
end
section
open PySem.SeqAt
namespace Mine
section
variable {prog:Program} {w:World} {EO:Value→Shared→Prop} {F:Frm} {env:AEnv} {sl:SL} {ρ:List Addr} {s:Shared} {A:Around} {d:Nat}
theorem JC {V:Vis} {x:Str} {u:AV} {val:Value}:∀ {ks:List Str} {l:List AV} {vs:List Value},ks.Nodup→ks.length=vs.length→HasL prog w V ρ l vs→Has prog w V ρ u val →
  ∃ vs',stored (ks.zip vs) x val=(putS ks l x u).1.zip vs'∧(putS ks l x u).1.length=vs'.length∧HasL prog w V ρ (putS ks l x u).2 vs'
 | [],[],vs,_,hl,hh,hu=>by
  have:vs=[]:=List.length_eq_zero_iff.mp hl.symm
  subst this
  exact ⟨[val],rfl,rfl,val,[],rfl,hu,rfl⟩
 | [],_ :: _,vs,_,hl,hh,hu=>by
  have:vs=[]:=List.length_eq_zero_iff.mp hl.symm
  subst this
  exact ⟨[val],rfl,rfl,val,[],rfl,hu,rfl⟩
 | _ :: _,[],vs,_,hl,hh,hu=>by rw [show vs=[] from hh] at hl; simp at hl
 | k :: ks,y :: l,_,hn,hl,⟨v,r,e,h1,h2⟩,hu=>by
  subst e
  have hn:=List.nodup_cons.mp hn
  have hl:ks.length=r.length:=by simpa using hl
  have fresh:∀ {kvs:List (Str×Value)},(∀ p∈kvs,p.1≠k)→kvs.map (fun kv=>if kv.1=k then (kv.1,val) else kv)=kvs:=fun {kvs} h=>by
   induction kvs with
   | nil=>rfl
   | cons p t ih=>rw [List.map_cons,if_neg (h p (by simp)),ih fun q hq=>h q (by simp [hq])]
  simp only [putS]
  cases e:k==x with
  | true=>
   have:=eq_of_beq e
   subst this
   refine ⟨val :: r,?_,by simp [hl],val,r,rfl,hu,h2⟩
   unfold stored
   rw [List.zip_cons_cons,if_pos (by simp),List.map_cons,if_pos rfl,fresh fun p hp=>?_]
   ·rfl
   ·intro q
    have:=List.of_mem_zip hp
    exact hn.1 (q ▸ this.1)
  | false=>
   have hk:k≠x:=fun q=>by rw [q,beq_self_eq_true] at e; exact nomatch e
   refine ob13 (JC (x:=x) hn.2 hl h2 hu) fun vs' e1 e2 e3=>?_
   refine ⟨v :: vs',?_,by simp [e2],v,vs',rfl,h1,e3⟩
   rw [List.zip_cons_cons,List.zip_cons_cons,← e1]
   unfold stored
   rw [List.any_cons,decide_eq_false hk,Bool.false_or,List.map_cons,if_neg hk]
   split<;>rfl
theorem JD {V:Vis} {x:Int} {u:AV} {val:Value}:∀ {ks:List Int} {l:List AV} {vs:List Value},ks.Nodup→ks.length=vs.length→HasL prog w V ρ l vs→Has prog w V ρ u val →
  ∃ vs',stored (ks.zip vs) x val=(putI ks l x u).1.zip vs'∧(putI ks l x u).1.length=vs'.length∧HasL prog w V ρ (putI ks l x u).2 vs'
 | [],[],vs,_,hl,hh,hu=>by
  have:vs=[]:=List.length_eq_zero_iff.mp hl.symm
  subst this
  exact ⟨[val],rfl,rfl,val,[],rfl,hu,rfl⟩
 | [],_ :: _,vs,_,hl,hh,hu=>by
  have:vs=[]:=List.length_eq_zero_iff.mp hl.symm
  subst this
  exact ⟨[val],rfl,rfl,val,[],rfl,hu,rfl⟩
 | _ :: _,[],vs,_,hl,hh,hu=>by rw [show vs=[] from hh] at hl; simp at hl
 | k :: ks,y :: l,_,hn,hl,⟨v,r,e,h1,h2⟩,hu=>by
  subst e
  have hn:=List.nodup_cons.mp hn
  have hl:ks.length=r.length:=by simpa using hl
  have fresh:∀ {kvs:List (Int×Value)},(∀ p∈kvs,p.1≠k)→kvs.map (fun kv=>if kv.1=k then (kv.1,val) else kv)=kvs:=fun {kvs} h=>by
   induction kvs with
   | nil=>rfl
   | cons p t ih=>rw [List.map_cons,if_neg (h p (by simp)),ih fun q hq=>h q (by simp [hq])]
  simp only [putI]
  cases e:decide (k=x) with
  | true=>
   have:=of_decide_eq_true e
   subst this
   refine ⟨val :: r,?_,by simp [hl],val,r,rfl,hu,h2⟩
   unfold stored
   rw [List.zip_cons_cons,if_pos (by simp),List.map_cons,if_pos rfl,fresh fun p hp=>?_]
   ·rfl
   ·intro q
    have:=List.of_mem_zip hp
    exact hn.1 (q ▸ this.1)
  | false=>
   have hk:k≠x:=of_decide_eq_false e
   refine ob13 (JD (x:=x) hn.2 hl h2 hu) fun vs' e1 e2 e3=>?_
   refine ⟨v :: vs',?_,by simp [e2],v,vs',rfl,h1,e3⟩
   rw [List.zip_cons_cons,List.zip_cons_cons,← e1]
   unfold stored
   rw [List.any_cons,decide_eq_false hk,Bool.false_or,List.map_cons,if_neg hk]
   split<;>rfl
theorem LH {K:Type} [DecidableEq K] {knd:KeyKind prog w K} {o:Obj} {ks:List K} {vs:List Value} (h:o.IsDictOf knd (ks.zip vs)) (hl:ks.length=vs.length):ks.Nodup:=by
 (refine ob25 h ?_; clear h; intro _ _ _ _ _ _ h)
 rwa [List.map_fst_zip (by omega)] at h
theorem RP {V:Vis} {u:AV} {val:Value}:∀ {l:List AV} {vs:List Value} {k:Nat},HasL prog w V ρ l vs→Has prog w V ρ u val→HasL prog w V ρ (l.set k u) (vs.set k val)
 | [],_,_,h,_=>by rw [show _=[] from h]; rfl
 | _ :: _,_,0,⟨v,r,e,_,h⟩,hu=>by subst e; exact ⟨val,r,rfl,hu,h⟩
 | _ :: _,_,k+1,⟨v,r,e,h1,h⟩,hu=>by subst e; exact ⟨v,r.set k val,rfl,h1,RP h hu⟩
theorem aaK {C:Prop} {V:Vis} {hp:Heap} {a:Addr} {α:Type} {c:AV} {f:List AV→R α} {k:List Int→List AV→R α} {P:α→Prop} {X:Prop} (h:(onLI c f k).Holds P X) (hc:OwnAt prog w V ρ hp a c) (K:∀ l,OwnAt prog w V ρ hp a (.lst l)→(f l).Holds P X→C) (K':∀ ks l,OwnAt prog w V ρ hp a (.dI ks l)→(k ks l).Holds P X→C):C:=by
 cases c<;>try exact h.elim
 ·exact K _ hc h
 ·rename_i ks l
  cases ks<;>cases l<;>try exact h.elim
  exact ob24 hc fun o vs h1 h2 h3 h4=>K' [] [] ⟨o,vs,h1,(show vs=[] from h4) ▸ IB ((show vs=[] from h4) ▸ h2),h3,h4⟩ h
 ·exact K' _ _ hc h
theorem aaL {C:Prop} {V:Vis} {hp:Heap} {a:Addr} {α:Type} {c:AV} {k:List Str→List AV→R α} {P:α→Prop} {X:Prop} (h:(onDS c k).Holds P X) (hc:OwnAt prog w V ρ hp a c) (K:∀ ks l,OwnAt prog w V ρ hp a (.dS ks l)→(k ks l).Holds P X→C):C:=by
 cases c<;>first | exact h.elim | exact K _ _ hc h
theorem OI (I:Inv prog w F env sl ρ s) {o i v:AV} {ov iv vv:Value} {P:SL→Prop} {X:Prop} (h:(acG sl o i v).Holds P X) (ho:Has prog w (Vw F sl ρ s.heap) ρ o ov) (hi:Has prog w (Vw F sl ρ s.heap) ρ i iv) (hv:Has prog w (Vw F sl ρ s.heap) ρ v vv)
  {Q:Unit→Shared→Prop} {E:Value→Shared→Prop} (hQ:∀ sl' s',P sl'→Inv prog w F env sl' ρ s'→Evo F sl ρ s sl' ρ s'→Q () s'):wpAny (model prog w) A (setItem ov iv vv) Q E s:=by
 refine IQ h ?_; clear h; intro n eo h
 refine IR h ?_; clear h; intro c e h
 rw [eo] at ho
 refine ob13 (I.slot ho e) fun a ea hr hs=>?_
 rw [ea]
 cases i<;>try exact h.elim
 ·rename_i x
  refine ob11 hi fun t et=>?_
  rw [et]
  refine aaK h hs (fun l hs h=>?_) fun ks l hs h=>?_
  ·refine ob22 hs fun us m g1 g2=>ob02 (AA h) fun hz h=>?_
   simp only [Bool.and_eq_true,decide_eq_true_eq] at hz
   obtain ⟨k,rfl⟩:=Int.eq_ofNat_of_zero_le hz.1
   have h1:=BR hz.2.1
   have h2:=BR hz.2.2
   have hl:=g2.length
   rw [Int.toNat_natCast] at h h1
   refine ki_setAt (k:=(k:Int)) (items:=us.toArray) (n:=m) g1 (by omega) (by omega) (by simp; omega) ?_
   let h':=s.heap.update a (Obj.mapSeq (·.setIfInBounds (k:Int).toNat vv))
   have hm:Obj.mapSeq (·.setIfInBounds (k:Int).toNat vv) (lstO us m)=lstO (us.set k vv) m:=by
    simp [Obj.mapSeq,lstO,List.setIfInBounds_toArray]
   have g3:h'.get? a=some (lstO (us.set k vv) m):=by
    have:=Heap.get?_update_self (Obj.mapSeq (·.setIfInBounds (k:Int).toNat vv)) g1 (by rw [hm]; rfl)
    rw [hm] at this; exact this
   have kp:∀ b o,b≠a→s.heap.get? b=some o→h'.get? b=some o:=fun b o hb e=>(Heap.get?_update_other _ _ (Ne.symm hb)).trans e
   have hvs:=EE I e hr kp
   refine ob02 (I.store (s':={ s with heap:=h' }) (c':=.lst (l.set k v)) e hr kp rfl rfl rfl ⟨us.set k vv,m,g3,RP (HasL.mono prog w hvs (fun _ _ e=>e) _ _ g2) (Has.mono prog w hvs (fun _ _ e=>e) _ _ hv)⟩) fun I' ev=>?_
   exact hQ _ _ h I' ev
  ·refine ob24 hs fun ob us g1 g2 g3 g4=>ob02 (AA h) fun hz h=>?_
   have hz:=BR hz
   refine wpAny_setItem_pairs (knd:=intKind prog w) (intKind_is prog w x t) (Heap.dictOf_iff.mpr ⟨ob,g1,g2⟩) (fun h' hd' hsb=>?_) (by rw [List.length_zip,← g3,Nat.min_self]; exact BM (by omega))
   have kp:=BS hsb
   have hvs:=EE I e hr kp
   refine ob13 (JD (x:=x) (LH g2 g3) g3 (HasL.mono prog w hvs (fun _ _ e=>e) _ _ g4) (Has.mono prog w hvs (fun _ _ e=>e) _ _ hv)) fun vs' e1 e2 e3=>?_
   rw [e1] at hd'
   refine ob02 (I.store (s':={ s with heap:=h',toks:=s.toks+1 }) e hr kp rfl rfl rfl (acH hd' e2 e3)) fun I' ev=>?_
   exact hQ _ _ h I' ev
 ·rename_i x
  refine ob11 hi fun t et=>?_
  rw [et]
  refine aaL h hs fun ks l hs h=>ob24 hs fun ob us g1 g2 g3 g4=>ob02 (AA h) fun hz h=>?_
  have hz:=BR hz
  refine wpAny_setItem_pairs (knd:=PySem.strKind prog w) (strKind_is prog w x t) (Heap.dictOf_iff.mpr ⟨ob,g1,g2⟩) (fun h' hd' hsb=>?_) (by rw [List.length_zip,← g3,Nat.min_self]; exact BM (by omega))
  have kp:=BS hsb
  have hvs:=EE I e hr kp
  refine ob13 (JC (x:=x) (LH g2 g3) g3 (HasL.mono prog w hvs (fun _ _ e=>e) _ _ g4) (Has.mono prog w hvs (fun _ _ e=>e) _ _ hv)) fun vs' e1 e2 e3=>?_
  rw [e1] at hd'
  refine ob02 (I.store (s':={ s with heap:=h',toks:=s.toks+1 }) e hr kp rfl rfl rfl (ajH hd' e2 e3)) fun I' ev=>?_
  exact hQ _ _ h I' ev
end
end Mine
end
section
open PySem.SeqAt
namespace Mine
section
variable {prog:Program} {w:World} {EO:Value→Shared→Prop} {F:Frm} {env:AEnv} {sl:SL} {ρ:List Addr} {s:Shared} {A:Around} {d:Nat}
def aqM (prog:Program) (w:World) (V:Vis) (ρ:List Addr):Fl→Flow→Prop
 | .nxt,f=>f=.next
 | .ret av,f=>∃ v,f=.ret v∧Has prog w V ρ av v
section
variable (prog:Program) (w:World) (EO:Value→Shared→Prop)
def QS (F:Frm) (sl:SL) (ρ:List Addr) (s:Shared) (P:Fl×AEnv×SL→Prop) (f:Flow) (s':Shared):Prop:=
 ∃ fl env' sl' ρ',Inv prog w F env' sl' ρ' s'∧Evo F sl ρ s sl' ρ' s'∧aqM prog w (Vw F sl' ρ' s'.heap) ρ' fl f∧P (fl,env',sl')
def TriS (F:Frm) (sl:SL) (ρ:List Addr) (s:Shared) (A:Around) (x:RS) (t:Sem Flow):Prop:=
 ∀ (P:Fl×AEnv×SL→Prop) (X:Prop) (Q:Flow→Shared→Prop) (E:Value→Shared→Prop),x.Holds P X→(∀ f s',QS prog w F sl ρ s P f s'→Q f s')→OnExc prog w EO F sl ρ s X E→wpAny (model prog w) A t Q E s
def OkS (F:Frm) (A:Around) (es:Es):Prop:=∀ st env sl ρ s,Inv prog w F env sl ρ s→TriS prog w EO F sl ρ s A (es env st sl) (execs st F.env)
def Alike (F F':Frm):Prop:=F'.env=F.env∧F'.base=F.base∧F'.fr=F.fr
structure ExcOK (F:Frm) (C:Ctx) (d:Nat) (A:Around):Prop where
 raise:C.raise=true→∀ n F',Alike F F'→∀ env sl ρ s,Inv prog w F' env sl ρ s→∀ (args:List Expr) (p cpos pos:Pos) (X:Prop) (Q:Flow→Shared→Prop) (E:Value→Shared→Prop),CG args=true→args.length=2→(evL (FA C d n F'.env.scope env) args sl).Holds (fun _=>X) X→OnExc prog w EO F' sl ρ s X E →
  wpAny (model prog w) A (exec (.Raise (some (.Call (.Name "AssemblyFault" p) args [] cpos)) none pos) F'.env) Q E s
 through:∀ F',Alike F F'→∀ sl ρ s₀ s,Past F' sl ρ s₀ s→∀ e,(∀ a,FO e s.heap a→s₀.heap.get? a=none)→EO e s→∀ (E:Value→Shared→Prop),(∀ s',Past F' sl ρ s₀ s'→(∀ a,FO e s'.heap a→s₀.heap.get? a=none)→EO e s'→E e s') →
  notedBy (model prog w) A F'.env (fun e s'=>cameBackBy (model prog w) A F'.env E e s') e s
end
theorem Alike.refl (F:Frm):Alike F F:=⟨rfl,rfl,rfl⟩
theorem Alike.hide {F':Frm} (h:Alike F F') (d:Addr):Alike F (F'.hide d):=h
theorem QS.sub {P P':Fl×AEnv×SL→Prop} {f:Flow} {s':Shared} (h:QS prog w F sl ρ s P f s') (hp:∀ q,P q→P' q):QS prog w F sl ρ s P' f s':=by
 (refine ob44 h ?_; clear h; intro fl e sl' ρ' h1 h2 h3 h4)
 exact ⟨fl,e,sl',ρ',h1,h2,h3,hp _ h4⟩
theorem QS.after {sl₁:SL} {ρ₁:List Addr} {s₁:Shared} {P:Fl×AEnv×SL→Prop} {f:Flow} {s':Shared} (x:Evo F sl ρ s sl₁ ρ₁ s₁) (h:QS prog w F sl₁ ρ₁ s₁ P f s'):QS prog w F sl ρ s P f s':=by
 (refine ob44 h ?_; clear h; intro fl e sl' ρ' h1 h2 h3 h4)
 exact ⟨fl,e,sl',ρ',h1,x.trans h2,h3,h4⟩
theorem CB {value:Expr} {t:Option Expr} {l:Nat} {env:Env} (h:FD value=true):swapsWith value t l env=pure false:=by
 cases value<;>first | rfl | exact nomatch h
theorem J6 (hS:StOK F) {ev:Expr→SL→RE} (hev:Ok prog w EO F env A ev) (hevH:∀ d,Ok prog w EO (F.hide d) env A ev) (I:Inv prog w F env sl ρ s) {x:Str} {px pos:Pos} {value:Expr} (hc:CD F.env.scope x=true) (hn:FD value=true) :
  TriS prog w EO F sl ρ s A ((VI ev value sl).bind fun p=>.ret (.nxt,A8 x p.2 env,p.1.getD sl)) (exec (.Assign [.Name x px] value pos) F.env):=fun P X Q E h hQ hE=>by
 refine wpAny_Assign_Name ?_ (CB hn)
 refine RK hev hevH I value _ X _ _ (R.holds_bind h) (fun v s₁ h₁=>?_) hE
 (refine ob34 h₁ ?_; clear h₁; intro o av ρ₁ I₁ hv ev₁ hp)
 refine FX hS I₁ hc hv fun s' I' ev'=>hQ _ _ ⟨.nxt,_,_,ρ₁,I',ev₁.trans ev',rfl,hp⟩
theorem HI {ev:Expr→SL→RE} (hev:Ok prog w EO F env A ev) (hevH:∀ d,Ok prog w EO (F.hide d) env A ev) (I:Inv prog w F env sl ρ s) {vs:List Expr} {k:Nat} {pos:Pos} {P:Option SL×List AV→Prop} {X:Prop} {Q E:Value→Shared→Prop} (h:(NY ev vs sl).Holds P X) (hz:vs.length<1000)
  (hQ:∀ v s',(∃ o l ρ',Inv prog w F env (o.getD sl) ρ' s'∧Has prog w (Vw F (o.getD sl) ρ' s'.heap) ρ' (.tup l) v∧Evo F sl ρ s (o.getD sl) ρ' s'∧P (o,l))→Q v s') (hE:OnExc prog w EO F sl ρ s X E) :
  wpAny (model prog w) A (eval (.Tuple vs k pos) F.env) Q E s:=by
 rw [arm_eval_Tuple]
 refine wpAny_bind (wpAny_standAt (wpAny_bind (OE hev hevH pos vs sl ρ s I _ X _ _ (PQ vs sl _ h) (fun us s₁ h₁=>?_) hE)))
 (refine ob35 h₁ ?_; clear h₁; intro o l ρ₁ I₁ hl ev₁ hp hll)
 have hn:=hl.length
 have hll:l.length=vs.length:=hll
 refine wpAny_newTuple (hQ _ _ ⟨o,l,ρ₁,I₁.calm (.push _ _),⟨_,us,0,rfl,C2 I₁ (AJ _) (Heap.get?_push_size _ rfl),(Calm.push (F:=F) (sl:=o.getD sl) (ρ:=ρ₁) _ _).evo.hasL hl⟩,ev₁.trans (Calm.push _ _).evo,hp⟩) (BM (by omega))
theorem HJ {α β:Type} {g:α→Option β}:∀ {l:List α},(l.filterMap g).length=l.length→∀ a∈l,(g a).isSome=true
 | [],_,_,h=>nomatch h
 | x :: l,h,a,ha=>by
  have le:=List.length_filterMap_le g l
  cases e:g x with
  | none=>
   rw [List.filterMap_cons_none e] at h
   simp at h; omega
  | some b=>
   rw [List.filterMap_cons_some e] at h
   rcases List.mem_cons.mp ha with q | q
   ·subst q; rw [e]; rfl
   ·exact HJ (by simpa using h) a q
noncomputable def OJ (env:Env) (ts:List Expr) (t:Expr):Option Str:=match t with
 | .Name id pos=>if env.kindOf id==some .local&&pos.line==(ts.head?.map (fun x:Expr=>x.pos.line)).getD 0 then some id else none
 | _=>none
theorem ML {ts vs:List Expr} {k k':Nat} {p p':Pos} {env:Env} (hns:CG vs=true) (hc:vs.all (constantsAlone 8)=false) :
  swappedStores [.Tuple ts k p] (.Tuple vs k' p') env=pure none∨∃ names,swappedStores [.Tuple ts k p] (.Tuple vs k' p') env=pure (some names)∧D8 ts=some names:=by
 have hst:(vs.any fun | .Starred ..=>true | _=>false)=false:=by
  have gen:∀ r,CG r=true→(r.any fun | .Starred ..=>true | _=>false)=false:=by
   intro r
   induction r with
   | nil=>intro _; rfl
   | cons e r ih=>
    intro h
    refine ob02 (EP h) fun h1 h2=>?_
    rw [List.any_cons,ih h2]
    cases e<;>first | rfl | exact absurd rfl (h1 _ _)
  exact gen vs hns
 have e:swappedStores [.Tuple ts k p] (.Tuple vs k' p') env=(if !(ts.length==2||ts.length==3)||vs.length != ts.length||env.blockKind != .function then pure none
  else if vs.any fun | .Starred ..=>true | _=>false then pure none
  else if (ts.filterMap (OJ env ts)).length != ts.length||(ts.filterMap (OJ env ts)).eraseDups.length != (ts.filterMap (OJ env ts)).length then pure none
  else if vs.all (foldedForSure 8) then pure none
  else if vs.all (constantsAlone 8) then unsupported "assign.tuple-of-constant-expressions:order-of-the-stores"
  else pure (some (ts.filterMap (OJ env ts)))):=by
  unfold swappedStores
  dsimp only [pure_bind]
  by_cases c1:(!(ts.length==2||ts.length==3)||vs.length != ts.length||env.blockKind != .function)=true
  ·rw [if_pos c1,if_pos c1]
  rw [if_neg c1,if_neg c1]
  rfl
 rw [e,hst,hc]
 split
 ·exact .inl rfl
 ·rw [if_neg (by decide)]
  split
  ·exact .inl rfl
  ·rename_i hl
   split
   ·exact .inl rfl
   ·rw [if_neg (by decide)]
    refine .inr ⟨_,rfl,?_⟩
    simp only [Bool.or_eq_true,bne_iff_ne,ne_eq,not_or,Decidable.not_not] at hl
    have all:=HJ hl.1
    clear hl e hc hst hns
    have gen:∀ l:List Expr,(∀ a∈l,(OJ env ts a).isSome=true)→D8 l=some (l.filterMap (OJ env ts)):=by
     intro l
     induction l with
     | nil=>intro _; rfl
     | cons t r ih=>
      intro h
      have ht:=h t (by simp)
      cases t with
      | Name x px=>
       have:OJ env ts (.Name x px)=some x:=by
        unfold OJ at ht ⊢
        dsimp only at ht ⊢
        split at ht
        ·rename_i q; rw [if_pos q]
        ·exact nomatch ht
       rw [List.filterMap_cons_some this]
       show (D8 r).bind (fun l=>some (x :: l))=_
       rw [ih fun a ha=>h a (by simp [ha])]; rfl
      | _=>exact nomatch ht
    exact gen ts all
end
end Mine
end
section
open PySem.SeqAt
namespace Mine
section
variable {prog:Program} {w:World} {EO:Value→Shared→Prop} {F:Frm} {env:AEnv} {sl:SL} {ρ:List Addr} {s:Shared} {A:Around} {d:Nat}
theorem SX {ts vs:List Expr} (h:Q5 ts vs=true):∃ xs,D8 ts=some xs∧xs.Nodup∧CG vs=true∧vs.all (constantsAlone 8)=false:=by
 unfold Q5 at h
 split at h
 ·rename_i xs e
  simp only [Bool.and_eq_true,decide_eq_true_eq,Bool.not_eq_true'] at h
  exact ⟨xs,e,h.1.1,h.1.2,h.2⟩
 ·exact nomatch h
theorem J7:∀ {ts:List Expr} {xs:List Str},D8 ts=some xs→xs.length=ts.length
 | []=>fun h=>by rw [← Option.some.inj h]; rfl
 | t :: ts=>fun h=>AS h fun x _ h=>AS h fun l e h=>by rw [← Option.some.inj h,List.length_cons,List.length_cons,J7 e]
theorem J8 (hS:StOK F) (hh:A.handled=none) {ev:Expr→SL→RE} (hev:Ok prog w EO F env A ev) (hevH:∀ d,Ok prog w EO (F.hide d) env A ev) (I:Inv prog w F env sl ρ s) {ts vs:List Expr} {k k':Nat} {p p' pos:Pos} (hw:Q5 ts vs=true) (hz:vs.length<1000) :
  TriS prog w EO F sl ρ s A ((NY ev vs sl).bind fun p=>onO (K3 F.env.scope ts p.2 env) fun env'=>.ret (.nxt,env',p.1.getD sl)) (exec (.Assign [.Tuple ts k p] (.Tuple vs k' p') pos) F.env):=fun P X Q E h hQ hE=>by
 refine ob14 (SX hw) fun xs x1 x2 x3 x4=>?_
 rcases ML (ts:=ts) (k:=k) (k':=k') (p:=p) (p':=p') (env:=F.env) x3 x4 with q | ⟨names,q,hn⟩
 ·refine PyProof.Rows.Assign_Tuple ?_ rfl q
  refine HI hev hevH I (R.holds_bind h) hz (fun v s₁ h₁=>?_) hE
  refine ob34 h₁ fun o l ρ₁ I₁ hv ev₁ hp=>AX hp fun env' hb hp=>?_
  exact MJ (t:=.Tuple ts k p) (av:=.tup l) hS hh I₁ hb hv fun s' I' ev'=>hQ _ _ ⟨.nxt,env',_,ρ₁,I',ev₁.trans ev',rfl,hp⟩
 ·rw [x1] at hn
  injection hn with hn
  subst hn
  refine PyProof.Rows.Assign_Tuple_swapped ?_ rfl q
  refine HI hev hevH I (R.holds_bind h) hz (fun v s₁ h₁=>?_) hE
  refine ob34 h₁ fun o l ρ₁ I₁ hv ev₁ hp=>AX hp fun env' hb hp=>?_
  refine ob15 (FG hb) fun xs' b1 b2 b3 b4 b5=>?_
  rw [x1] at b1
  injection b1 with b1
  subst b1
  rw [b2]
  refine GK hh I₁ hv (.inl rfl) fun us s₂ c hl=>?_
  have hrev:∀ {l:List AV} {us:List Value} {V:Vis},HasL prog w V ρ₁ l us→HasL prog w V ρ₁ l.reverse us.reverse:=by
   intro l
   induction l with
   | nil=>intro us V h; rw [show us=[] from h]; rfl
   | cons x l ih=>
    intro us V ⟨v,r,e,h1,h2⟩
    subst e
    rw [List.reverse_cons,List.reverse_cons]
    exact (ih h2).append ⟨v,[],rfl,h1,rfl⟩
  refine JB hS (f:=fun n=>bindName F.env n) (fun x v s Q E h=>PyProof.Rows.bindName_ h) xs.reverse us.reverse l.reverse env s₂ (by simp [b2]) (I₁.calm c) (fun x hx=>b5 x (by simpa using hx)) (hrev hl) fun s' I' ev'=>hQ _ _ ⟨.nxt,env',_,ρ₁,?_,ev₁.trans (c.evo.trans ev'),rfl,hp⟩
  subst b4
  exact I'.weaken fun x av e=>by rw [GJ x2 b2]; exact e
theorem MN {ts:List Expr} {k:Nat} {p:Pos} {value:Expr} {env:Env} (h:∀ vs k' p',value=.Tuple vs k' p'→False):swappedStores [.Tuple ts k p] value env=pure none:=by
 cases value with
 | Tuple vs k' p'=>exact (h _ _ _ rfl).elim
 | _=>rfl
theorem JE {t value:Expr} {l:Nat} {env:Env} (h:FD value=true):swapsWithSole [t] value l env=pure false:=by
 have e:swapsWithSole [t] value l env=swapsWith value (some t) l env:=by rfl
 rw [e]; exact CB h
theorem SY (hS:StOK F) (hh:A.handled=none) {ev:Expr→SL→RE} (hev:Ok prog w EO F env A ev) (hevH:∀ d,Ok prog w EO (F.hide d) env A ev) (I:Inv prog w F env sl ρ s) {t value:Expr} {pos:Pos} :
  TriS prog w EO F sl ρ s A (VJ F.env.scope ev t value env sl) (exec (.Assign [t] value pos) F.env):=fun P X Q E h hQ hE=>by
 cases t<;>try exact h.elim
 ·refine ob02 (AA h) fun hz h=>?_
  refine wpAny_Assign_Subscript ?_ (CB hz)
  refine hev value sl ρ s I _ X _ _ (R.holds_bind h) (fun v s₁ h₁=>?_) hE
  (refine ob34 h₁ ?_; clear h₁; intro o₁ av ρ₁ I₁ hv ev₁ hp)
  refine hev _ _ ρ₁ s₁ I₁ _ X _ _ (R.holds_bind hp) (fun ov s₂ h₂=>?_) (hE.after ev₁)
  (refine ob34 h₂ ?_; clear h₂; intro o₂ ao ρ₂ I₂ ho ev₂ hp)
  refine hev _ _ ρ₂ s₂ I₂ _ X _ _ (R.holds_bind hp) (fun iv s₃ h₃=>?_) ((hE.after ev₁).after ev₂)
  (refine ob34 h₃ ?_; clear h₃; intro o₃ ai ρ₃ I₃ hi ev₃ hp)
  exact OI I₃ (R.holds_bind hp) (ev₃.has ho) hi (ev₃.has (ev₂.has hv)) fun sl' s' hp I' ev'=>hQ _ _ ⟨.nxt,env,sl',ρ₃,I',((ev₁.trans ev₂).trans ev₃).trans ev',rfl,hp⟩
 ·refine ob02 (AA h) fun hz h=>?_
  simp only [Bool.and_eq_true] at hz
  exact J6 hS hev hevH I hz.1 hz.2 P X Q E h hQ hE
 ·rename_i ts k p
  refine DD h (fun vs e h=>?_) fun e h=>?_
  ·refine ob02 (AA h) fun hz h=>?_
   simp only [Bool.and_eq_true] at hz
   refine ob21 (WI e) fun k' p' e=>?_
   rw [e]
   exact J8 hS hh hev hevH I hz.1 (BR hz.2) P X Q E h hQ hE
  ·refine ob02 (AA h) fun hz h=>?_
   refine PyProof.Rows.Assign_Tuple ?_ (JE hz) (MN fun vs k' p' q=>by rw [q] at e; exact nomatch e)
   refine hev value sl ρ s I _ X _ _ (R.holds_bind h) (fun v s₁ h₁=>?_) hE
   refine ob34 h₁ fun o av ρ₁ I₁ hv ev₁ hp=>AX hp fun env' e hp=>?_
   exact MJ (t:=.Tuple ts k p) hS hh I₁ e hv fun s' I' ev'=>hQ _ _ ⟨.nxt,env',_,ρ₁,I',ev₁.trans ev',rfl,hp⟩
theorem Inv.retype (I:Inv prog w F env sl ρ s) {x:Str} {u u':AV} (h:env.lookup x=some u) (hh:∀ v,Has prog w (Vw F sl ρ s.heap) ρ u v→Has prog w (Vw F sl ρ s.heap) ρ u' v):Inv prog w F (A8 x u' env) sl ρ s:=by
 refine ⟨I.base,I.sm,I.low,?_,fun y av e k=>?_,fun y av e=>?_,I.cells,I.len,I.slots,I.apart,I.ownNe,I.locX,I.frs⟩
 ·refine ob12 I.ns fun m h1 h2=>?_
  refine ⟨m,h1,fun y av e k=>?_⟩
  rw [AY] at e
  by_cases q:y=x
  ·subst q
   rw [if_pos rfl] at e
   injection e with e; subst e
   refine ob12 (h2 y u h k) fun v e1 e2=>?_
   exact ⟨v,e1,hh v e2⟩
  ·rw [if_neg q] at e
   exact h2 y av e k
 ·rw [AY] at e
  by_cases q:y=x
  ·subst q
   rw [if_pos rfl] at e
   injection e with e; subst e
   refine ob23 (I.cell y u h k) fun c v e1 e2 e3=>?_
   exact ⟨c,v,e1,e2,hh v e3⟩
  ·rw [if_neg q] at e
   exact I.cell y av e k
 ·rw [AY] at e
  by_cases q:y=x
  ·subst q; exact I.kind y u h
  ·rw [if_neg q] at e
   exact I.kind y av e
theorem afR {st:Stmt} {p:List Expr×Expr} (h:asgO st=some p):∃ q,st=.Assign p.1 p.2 q:=by
 cases st<;>first | exact A0 h | exact ⟨_,by rw [← Option.some.inj h]⟩
theorem afS {C:Value→Prop} {V:Vis} {α:Type} {v:AV} {f g:Bool→R α} {P:α→Prop} {X:Prop} (h:(onTF v f g).Holds P X) (K:∀ b,(f b).Holds P X→C (.bool b)) (K':∀ b,(g b).Holds P X→C (.bool b)):∀ x,Has prog w V ρ v x→C x:=fun x hv=>by
 cases v<;>try exact h.elim
 ·rw [show x=_ from hv]; exact K _ h
 ·rw [show x=_ from hv]; exact K' _ h
theorem WJ {α:Type} {v:AV} {f g:Bool→R α} {P:α→Prop} {X:Prop} (h:(onTF v f g).Holds P X):(AQ v).isSome=true:=by
 cases v<;>first | exact h.elim | rfl
theorem iteW {b:Bool} {x y:Sem Flow} {Q:Flow→Shared→Prop} {E:Value→Shared→Prop} (h:wpAny (model prog w) A (if b=true then x else y) Q E s):if b=true then wpAny (model prog w) A x Q E s else wpAny (model prog w) A y Q E s:=by cases b<;>exact h
theorem aqN (hS:StOK F) {ev:Expr→SL→RE} (hev:Ok prog w EO F env A ev) (hB:OkB prog w EO F env A ev) {es:Es} (hes:OkS prog w EO F A es) (I:Inv prog w F env sl ρ s) {test:Expr} {body orelse:List Stmt} {pos:Pos} :
  TriS prog w EO F sl ρ s A (ifA F.env.scope ev es env test body orelse sl) (exec (.If test body orelse pos) F.env):=fun P X Q E h hQ hE=>by
 refine wpAny_If ?_
 refine hB test sl ρ s I _ X _ _ (R.holds_mono (fun p hp=>⟨WJ hp,hp⟩) id (R.holds_bind h)) (fun b s₁ h₁=>?_) hE
 (refine ob34 h₁ ?_; clear h₁; intro o av ρ₁ I₁ hv ev₁ hp)
 have tri:∀ (st:List Stmt),(es env st (o.getD sl)).Holds P X→wpAny (model prog w) A (execs st F.env) Q E s₁:=fun st hst=>
  hes st env _ ρ₁ s₁ I₁ P X Q E hst (fun f s' hq=>hQ f s' (QS.after ev₁ hq)) (hE.after ev₁)
 have both:∀ b,(es env (bif b then body else orelse) (o.getD sl)).Holds P X→wpAny (model prog w) A (if b=true then execs body F.env else execs orelse F.env) Q E s₁:=fun b hst=>by
  cases b with
  | true=>exact tri body hst
  | false=>exact tri orelse hst
 refine iteW (afS (C:=fun x=>x=.bool b→wpAny (model prog w) A (if b=true then execs body F.env else execs orelse F.env) Q E s₁) hp (fun c hp e=>?_) (fun c hp e=>?_) _ hv rfl)
 ·injection e with e
  rw [e] at hp
  exact both b hp
 ·injection e with e
  rw [e] at hp
  refine DD hp (fun r hj hp=>?_) fun _ hp=>both b (by cases b; exact hp.2 rfl; exact hp.1 rfl)
  refine AS hj fun st e1 hj=>AS hj fun p e2 hj=>AS hj fun t e3 hj=>AS hj fun x e4 hj=>AS hj fun q hpo hj=>AS hj fun u hl hj=>ob02 (RN hj) fun hc hr=>?_
  rw [← hr] at hp
  refine ob02 hp fun hq hp=>?_
  simp only [Bool.and_eq_true,Bool.not_eq_true',List.isEmpty_iff] at hc
  refine ob11 (afR e2) fun q2 e2=>ob11 (FV e4) fun q4 e4=>?_
  rw [PT e1,e2,PT e3,e4,hc.1]
  cases b with
  | true=>
   refine wpAny_execs_cons (wpAny_Assign_Name (hev p.2 _ ρ₁ s₁ I₁ (fun r=>r=(none,q.2)) False _ E (BU hpo (hq rfl)) (fun val s₂ h₂=>?_) (fun hX=>hX.elim)) (CB hc.2.2.2))
   (refine ob34 h₂ ?_; clear h₂; intro o₂ av₂ ρ₂ I₂ hv₂ ev₂ e₂)
   injection e₂ with e₂ e₃
   subst e₂ e₃
   exact FX hS I₂ hc.2.2.1 (EF (b:=true) (y:=u) (fun _=>hv₂) (fun e=>nomatch e)) fun s₃ I₃ ev₃=>wpAny_execs_nil (hQ _ _ ⟨.nxt,_,_,ρ₂,I₃,(ev₁.trans ev₂).trans ev₃,rfl,hp⟩)
  | false=>
   exact wpAny_execs_nil (env:=F.env) (hQ _ _ ⟨.nxt,_,_,ρ₁,I₁.retype hl (fun v' hh=>EF (b:=false) (fun e=>nomatch e) (fun _=>hh)),ev₁,rfl,hp⟩)
end
end Mine
end
section
open PySem.SeqAt
namespace Mine
section
variable {prog:Program} {w:World} {EO:Value→Shared→Prop} {F:Frm} {env:AEnv} {sl:SL} {ρ:List Addr} {s:Shared} {A:Around} {d:Nat}
theorem WK {t:Expr} {J:Addr} {v:Value} (h:∃ o,s.heap.get? J=some o∧Tame o) {Q:Unit→Shared→Prop} {E:Value→Shared→Prop} (hQ:Q () s):wpAny (model prog w) A (letOwnedTupleGo t (.ref J) v) Q E s:=by
 (refine ob12 h ?_; clear h; intro o ho ht)
 have go:∀ a:Addr,wpAny (model prog w) A (do
   let o ← load J
   match o.cls,o.data with
   | .type n,.fields vs=>
    if ["enumerate","zip","dict_itemiterator","dict_reverseitemiterator","odict_iterator","itertools.zip_longest","itertools.pairwise"].contains n&&vs[0]?==some (rawInt a) then
     rule "for.unpacks-the-owned-tuple"
     updateField J 0 .none
   | _,_=>pure ()) Q E s:=fun a=>by
  refine wpAny_bind (wpAny_load ho ?_)
  split
  ·rename_i n vs hc hd
   rw [if_neg (by rw [ht n hc]; simp)]
   exact wpAny_pure hQ
  ·exact wpAny_pure hQ
 cases t<;>first | exact wpAny_pure hQ | (cases v<;>first | exact wpAny_pure hQ | exact go _)
theorem Grow.vis_hide {J:Addr} {s':Shared} (g:Grow s s') (hJ:s.heap.get? J=none) (b:Addr) (o:Obj) (h:Vw F sl ρ s.heap b o):Vw (F.hide J) sl ρ s'.heap b o:=
 ⟨g.keep b o h.1,fun q=>(bad_hide.mp q).elim h.2.1 fun e=>(by have h1:=h.1; rw [e,hJ] at h1; cases h1),h.2.2⟩
theorem ajJ {C:Ctx} (hS:StOK F) (hX:ExcOK prog w EO F C d A) (hh:A.handled=none) {ev:Expr→SL→RE} (hev:Ok prog w EO F env A ev) {es:Es} (hes:∀ d,OkS prog w EO (F.hide d) A es) (I:Inv prog w F env sl ρ s) {t iter:Expr} {body:List Stmt} {pos:Pos} (hset:K2 iter=true) :
  TriS prog w EO F sl ρ s A (forA F.env.scope ev es env t iter body sl) (exec (.For t iter body [] pos) F.env):=fun P X Q E h hQ hE=>by
 have hsf:∀ x,foldedSetIterable iter F.env x=pure x:=fun x=>by
  cases iter<;>first | rfl | exact nomatch hset
 refine wpAny_For ?_ hsf
 refine hev iter sl ρ s I _ X _ _ (R.holds_bind h) (fun xv s₁ h₁=>?_) hE
 (refine ob34 h₁ ?_; clear h₁; intro o₁ src ρ₁ I₁ hsrc ev₁ hp)
 refine ob25 (I8 I₁ hsrc (R.holds_bind hp)) fun o₂ src' I₂ hsrc' ev₂ _ hp=>?_
 dsimp only at hp
 have evA:=ev₁.trans ev₂
 have hE₁:=hE.after evA
 clear hsrc I₁ ev₁ ev₂ hE
 generalize o₂.getD (o₁.getD sl)=sl₁ at *
 refine AX hp fun items hit hp=>?_
 ·refine OG hh I₂ hit hsrc' fun J s₂ fp n P₀ St It=>?_
  have newJ:=It.new
  have evU:∀ {sl':SL} {ρ':List Addr} {s':Shared},Evo (F.hide J) sl₁ ρ₁ s₁ sl' ρ' s'→Evo F sl₁ ρ₁ s₁ sl' ρ' s':=fun e=>⟨e.keep,e.gens,e.drawn,e.os,e.ext,e.mu,e.live⟩
  have evH:∀ {sl':SL} {ρ':List Addr} {s':Shared},Evo (F.hide J) sl₁ ρ₁ s₁ sl' ρ' s'→Evo F sl ρ s sl' ρ' s':=fun e=>evA.trans (evU e)
  have ev₀:Evo (F.hide J) sl₁ ρ₁ s₁ sl₁ ρ₁ s₂:=⟨fun a o e _=>.of (It.grow.keep a o e),It.grow.gens,It.grow.drawn,It.grow.os,fun _ _ e=>e,fun _ h=>.inl h,fun a o e=>⟨o,It.grow.keep a o e⟩⟩
  have XJ:(F.hide J).X J:=.inr rfl
  have nfJ:¬ F.fr J:=I₂.nfr newJ
  have liveJ:∀ {env':AEnv} {sl':SL} {ρ':List Addr} {s':Shared},Inv prog w (F.hide J) env' sl' ρ' s'→∃ o,s'.heap.get? J=some o:=fun I'=>(I'.low J (.inl XJ)).2
  have showJ:∀ {env':AEnv} {sl':SL} {ρ':List Addr} {s':Shared},Inv prog w (F.hide J) env' sl' ρ' s'→Inv prog w F env' sl' ρ' s':=fun I'=>I'.show (fun _ _ _ e=>e) (liveJ I') nfJ
  have I₀:Inv prog w (F.hide J) env sl₁ ρ₁ s₂:=I₂.hide It.grow.keep newJ (ob11 It.live fun o e=>⟨o,e⟩)
  have fpFr:∀ b∈fp,¬ F.fr b:=fun b hb q=>by
   rcases It.fp b hb with e | ⟨ob,e⟩
   ·exact nfJ (e ▸ q)
   ·exact e.2.1 (.inl (F.frX b q))
  have fpMut:∀ {env':AEnv} {sl':SL} {ρ':List Addr} {s':Shared},Inv prog w (F.hide J) env' sl' ρ' s'→Evo (F.hide J) sl₁ ρ₁ s₁ sl' ρ' s'→∀ b∈fp,¬ Mut (F.hide J) sl' ρ' b:=fun I' ev' b hb q=>by
   rcases It.fp b hb with e | ⟨ob,e⟩
   ·subst e; exact I'.x_not_mut XJ q
   ·rcases ev'.mu b q with q | q
    ·exact e.2.1 (.inr q)
    ·rw [e.1] at q; exact nomatch q
  have has₀:∀ {sl':SL} {ρ':List Addr} {s':Shared},Evo (F.hide J) sl₁ ρ₁ s₁ sl' ρ' s'→∀ {av:AV} {v:Value},Has prog w (Vw F sl₁ ρ₁ s₁.heap) ρ₁ av v→Has prog w (Vw (F.hide J) sl' ρ' s'.heap) ρ' av v:=fun ev' av v hh'=>
   ev'.has (Has.mono prog w (fun b o h=>⟨h.1,fun q=>(bad_hide.mp q).elim h.2.1 fun e=>(by have h1:=h.1; rw [e,newJ] at h1; cases h1),h.2.2⟩) (fun _ _ e=>e) _ _ hh')
  have onExc:∀ {env':AEnv} {sl':SL} {ρ':List Addr} {s':Shared},Inv prog w (F.hide J) env' sl' ρ' s'→Evo (F.hide J) sl₁ ρ₁ s₁ sl' ρ' s'→OnExc prog w EO (F.hide J) sl' ρ' s' X (notedBy (model prog w) A F.env fun e s'=>cameBackBy (model prog w) A F.env E e s'):=fun _ ev' hx e s₃ p f he=>
   hX.through F (Alike.refl F) sl₁ ρ₁ s₁ s₃ ((evU ev').past ⟨p.keep,p.gens,p.drawn,p.os,p.live⟩) e (fun a ha=>by
    cases q:s₁.heap.get? a with
    | none=>rfl
    | some o=>
     refine ob11 (ev'.live a o q) fun o' q'=>?_
     rw [f a ha] at q'; exact nomatch q') he E fun s₄ p₄ f₄ he₄=>hE₁ hx e s₄ p₄ f₄ he₄
  refine codeAny_forLoop_any (fun k s'=>∃ i env' sl' ρ',i+k=n∧Inv prog w (F.hide J) env' sl' ρ' s'∧Evo (F.hide J) sl₁ ρ₁ s₁ sl' ρ' s'∧St i s'.heap∧(J3 F.env.scope (fun env sl=>es env body sl) t (items.drop i) env' sl').Holds P X) ?_ n ⟨0,env,sl₁,ρ₁,Nat.zero_add n,I₀,ev₀,It.st,hp⟩
  rintro k s₅ ⟨i,env',sl',ρ',hik,I₅,ev₅,st₅,hh₅⟩
  cases k with
  | zero=>
   have hi:i=n:=by omega
   subst hi
   refine It.walks.done s₅ _ _ st₅ fun h' tk hk=>?_
   have hk':∀ a ob,a≠J→s₅.heap.get? a=some ob→h'.get? a=some ob:=fun a ob hne e=>hk a ob (by simpa using hne) e
   rw [List.drop_of_length_le (by rw [It.len]; exact Nat.le_refl _)] at hh₅
   have hh₅:P (.nxt,env',sl'):=hh₅
   refine wpAny_execs_nil ?_
   have I₆:Inv prog w F env' sl' ρ' { s₅ with heap:=h',toks:=tk }:=I₅.drop hk' fun q=>I₂.fresh newJ (.inl q)
   exact hQ _ _ ⟨.nxt,env',sl',ρ',I₆,evA.trans ((evU ev₅).turn newJ hk' rfl rfl rfl),rfl,hh₅⟩
  | succ k=>
   have hi:i<n:=by omega
   refine It.walks.item i s₅ _ _ hi st₅ fun v h' tk hv st₆ hk=>?_
   have hk':∀ a ob,a≠J→s₅.heap.get? a=some ob→h'.get? a=some ob:=fun a ob hne e=>hk a ob (by simpa using hne) e
   have tJ:=It.stLive _ _ st₆
   let s₆:Shared:={ s₅ with heap:=h',toks:=tk }
   have I₆:Inv prog w (F.hide J) env' sl' ρ' s₆:=I₅.turn XJ nfJ hk' (ob12 tJ fun o e _=>⟨o,e⟩)
   have ev₆:Evo (F.hide J) sl₁ ρ₁ s₁ sl' ρ' s₆:=ev₅.turn newJ hk' rfl rfl rfl
   refine ob12 (It.has i v hi hv) fun av hav hhas=>?_
   have hlt:i<items.length:=(List.getElem?_eq_some_iff.mp hav).1
   have hdrop:items.drop i=av :: items.drop (i+1):=by
    rw [List.drop_eq_getElem_cons hlt]
    congr 1
    rw [List.getElem?_eq_getElem hlt] at hav
    injection hav
   rw [hdrop] at hh₅
   have hitem:Has prog w (Vw (F.hide J) sl' ρ' s₆.heap) ρ' av v:=Has.mono prog w (MH (F:=F.hide J) XJ hk') (fun _ _ e=>e) _ _ (has₀ ev₅ hhas)
   refine WK tJ ?_
   have hh₅:(match ED F.env.scope t av env' with
    | none=>.fail
    | some env'=>(es env' body sl').bind fun p=>match p with
     | (.nxt,env₁,sl₁)=>J3 F.env.scope (fun env sl=>es env body sl) t (items.drop (i+1)) env₁ sl₁
     | (.ret v,env₁,sl₁)=>.ret (.ret v,env₁,sl₁):RS).Holds P X:=hh₅
   split at hh₅
   ·exact hh₅.elim
   ·rename_i env₇ hb
    refine MJ (F:=F.hide J) ⟨hS.kind,hS.apart,hS.cells⟩ hh I₆ hb hitem fun s₇ I₇ ev₇=>?_
    have ev₀₇:=ev₆.trans ev₇
    refine hes J body env₇ sl' ρ' s₇ I₇ _ X _ _ (R.holds_bind hh₅) (fun f s₈ h₈=>?_) (onExc I₇ ev₀₇)
    (refine ob44 h₈ ?_; clear h₈; intro fl env₈ sl₈ ρ₈ I₈ ev₈ hf hp₈)
    have ev₀₈:=ev₀₇.trans ev₈
    cases fl with
    | nxt=>
     have hf:f=.next:=hf
     subst hf
     have st₈:St (i+1) s₈.heap:=It.walks.frame _ _ _ st₆ fun b hb ob e=>((ev₇.trans ev₈).keep b ob e (fpMut I₆ ev₆ b hb)).exact (fpFr b hb)
     exact ⟨k,Nat.lt_succ_self k,i+1,env₈,sl₈,ρ₈,by omega,I₈,ev₀₈,st₈,hp₈⟩
    | ret rv=>
     (refine ob12 hf ?_; clear hf; intro v' hf hr)
     subst hf
     exact hQ _ _ ⟨.ret rv,env₈,sl₈,ρ₈,showJ I₈,evH ev₀₈,⟨v',rfl,Has.mono prog w (fun b o h=>⟨h.1,fun q=>h.2.1 (bad_hide.mpr (.inl q)),h.2.2⟩) (fun _ _ e=>e) _ _ hr⟩,hp₈⟩
theorem ExcOK.hide {C:Ctx} (h:ExcOK prog w EO F C d A) (a:Addr):ExcOK prog w EO (F.hide a) C d A:=⟨fun hr n F' hF'=>h.raise hr n F' hF',fun F' hF'=>h.through F' hF'⟩
theorem StOK.hide (h:StOK F) (a:Addr):StOK (F.hide a):=⟨h.kind,h.apart,h.cells⟩
theorem FrmOK.hide (h:FrmOK F A) (a:Addr):FrmOK (F.hide a) A:=⟨h.kind,h.glob,h.blt,h.frames⟩
theorem aaM {C:Ctx} (hG:GOK prog w C F.base) (r:Room A d) {n:Nat} {es:Es} (hF:FrmOK F A) (hS:StOK F) (hX:ExcOK prog w EO F C d A) (hes:OkS prog w EO F A es) (hesH:∀ d,OkS prog w EO (F.hide d) A es) (I:Inv prog w F env sl ρ s) (st:Stmt) :
  TriS prog w EO F sl ρ s A (IK C d n F.env.scope es env st sl) (exec st F.env):=by
 have hev:Ok prog w EO F env A (FA C d n F.env.scope env):=(F5 (EO:=EO) hG r n F rfl hF hS env).1
 have hB:OkB prog w EO F env A (FA C d n F.env.scope env):=(F5 (EO:=EO) hG r n F rfl hF hS env).2
 have hevH:∀ d,Ok prog w EO (F.hide d) env A (FA C _ n F.env.scope env):=fun d=>(F5 (EO:=EO) hG r n (F.hide d) rfl (hF.hide d) (hS.hide d) env).1
 intro P X Q E h hQ hE
 cases st<;>try exact h.elim
 ·refine AX h fun e ev h=>?_
  rw [ev]
  refine wpAny_Return_some (hev _ sl ρ s I _ X _ _ (R.holds_bind h) (fun v s₁ h₁=>?_) hE)
  (refine ob34 h₁ ?_; clear h₁; intro o av ρ₁ I₁ hv ev₁ hp)
  exact hQ _ _ ⟨.ret av,env,_,ρ₁,I₁,ev₁,⟨v,rfl,hv⟩,hp⟩
 ·exact afH h fun t e h=>e ▸ SY hS r.hand hev hevH I P X Q E h hQ hE
 ·exact PS h fun e h=>ob02 (AA h) fun hz h=>e ▸ ajJ hS hX r.hand hev hesH I hz P X Q E h hQ hE
 ·exact aqN hS hev hB hes I P X Q E h hQ hE
 ·refine AX h ?_; clear h; intro e ee h
  refine MF h ?_; clear h; intro ec h
  rw [ee,ec]
  clear ee
  cases e<;>try exact h.elim
  rename_i f args kws cpos
  refine AX h fun f ef h=>PS h fun ek h=>ob02 (AA h) fun hc h=>ob11 (FV ef) fun p ef=>?_
  rw [ef,ek]
  simp only [Bool.and_eq_true,beq_iff_eq] at hc
  rw [hc.1.1.2]
  exact hX.raise hc.1.1.1 n F (Alike.refl F) env sl ρ s I args p cpos _ X Q E hc.1.2 (Nat.eq_of_beq_eq_true hc.2) (R.holds_bind h) hE
 ·refine ob02 (AA h) fun hz h=>?_
  refine wpAny_Expr (hev _ sl ρ s I _ X _ _ (R.holds_bind h) (fun v s₁ h₁=>?_) hE) (by unfold interactive; rw [hF.kind]; rfl) (CB hz)
  (refine ob34 h₁ ?_; clear h₁; intro o av ρ₁ I₁ hv ev₁ hp)
  cases av<;>try exact hp.elim
  rw [show v=.none from hv]
  exact hQ _ _ ⟨.nxt,env,_,ρ₁,I₁,ev₁,rfl,hp⟩
theorem F8 {C:Ctx} {G:Heap} (hG:GOK prog w C G) (r:Room A d):∀ (n:Nat) (F:Frm),F.base=G→FrmOK F A→StOK F→ExcOK prog w EO F C d A→OkS prog w EO F A (BQ C d F.env.scope n)
 | 0,_,_,_,_,_=>fun _ _ _ _ _ _ P X Q E h _ _=>h.elim
 | n+1,F,hb,hF,hS,hX=>by
  subst hb
  have ih:=F8 hG r n F rfl hF hS hX
  have ihH:∀ d',OkS prog w EO (F.hide d') A (BQ C d F.env.scope n):=fun d'=>F8 hG r n (F.hide d') rfl (hF.hide d') (hS.hide d') (hX.hide d')
  intro st env sl ρ s I P X Q E h hQ hE
  cases st with
  | nil=>exact wpAny_execs_nil (hQ _ _ ⟨.nxt,env,sl,ρ,I,.refl ..,rfl,h⟩)
  | cons st rest=>
   have h:(seqS (IK C d n F.env.scope (BQ C d F.env.scope n) env st sl) fun env sl=>BQ C d F.env.scope n env rest sl).Holds P X:=h
   refine wpAny_execs_cons (aaM hG r hF hS hX ih ihH I st _ X _ _ (R.holds_bind h) (fun f s₁ h₁=>?_) hE)
   (refine ob44 h₁ ?_; clear h₁; intro fl env₁ sl₁ ρ₁ I₁ ev₁ hf hp)
   cases fl with
   | nxt=>
    have hf:f=.next:=hf
    subst hf
    exact ih rest env₁ sl₁ ρ₁ s₁ I₁ P X Q E hp (fun f s' hq=>hQ f s' (QS.after ev₁ hq)) (hE.after ev₁)
   | ret av=>
    (refine ob12 hf ?_; clear hf; intro v hf hv)
    subst hf
    exact hQ _ _ ⟨.ret av,env₁,sl₁,ρ₁,I₁,ev₁,⟨v,rfl,hv⟩,hp⟩
end
end Mine
end
section
open PySem.SeqAt
namespace Mine
section
variable {prog:Program} {w:World} {EO:Value→Shared→Prop} {F:Frm} {env:AEnv} {sl:SL} {ρ:List Addr} {s:Shared} {A:Around} {d:Nat}
structure DefAt (G:Heap) (a:Addr) (name:Str) (params:Arguments) (body:List Stmt) (sc:Scope) (xs:List Str):Prop where
 get:∃ o pm cd doc,G.get? a=some o∧o.data=.func (docDef name params body sc pm cd doc)∧G.CodeRec cd name
 lim:G.NoLimit
 sm:∃ o,G.get? sysModules=some o
 kind:sc.kind=.function
 co:sc.isCoroutine=false
 gen:sc.isGenerator=false
 plain:(sc.names.all fun p=>!decide (p.2=.cell)&&!decide (p.2=.free))=true
 bind:∀ pm cd doc vals,vals.length=xs.length→bindArgs (docDef name params body sc pm cd doc) ⟨vals,[]⟩=pure (xs.zip vals)
 loc:(xs.all fun x=>decide (sc.names.lookup x=some .local))=true
 nodup:xs.Nodup
theorem DefAt.noCell {G:Heap} {a:Addr} {name:Str} {params:Arguments} {body:List Stmt} {sc:Scope} {xs:List Str} (D:DefAt G a name params body sc xs):∀ x∈sc.names,x.2≠.cell∧x.2≠.free:=fun x hx=>by
 have:=List.all_eq_true.mp D.plain x hx
 simpa using this
theorem DefAt.noKind {G:Heap} {a:Addr} {name:Str} {params:Arguments} {body:List Stmt} {sc:Scope} {xs:List Str} (D:DefAt G a name params body sc xs) {x:Str}:¬ (sc.names.lookup x=some .cell∨sc.names.lookup x=some .free):=fun h=>by
 rcases h with h | h
 ·exact (D.noCell _ (AF h)).1 rfl
 ·exact (D.noCell _ (AF h)).2 rfl
theorem DefAt.locs {G:Heap} {a:Addr} {name:Str} {params:Arguments} {body:List Stmt} {sc:Scope} {xs:List Str} (D:DefAt G a name params body sc xs) {x:Str} (h:x∈xs):sc.names.lookup x=some .local:=
 of_decide_eq_true (List.all_eq_true.mp D.loc x h)
theorem GA {V:Vis} {x:Str}:∀ {xs:List Str} {avs:List AV} {vs:List Value} {av:AV},xs.Nodup→HasL prog w V ρ avs vs→(xs.zip avs).lookup x=some av→x∈xs∧∃ v,(xs.zip vs).reverse.lookup x=some v∧Has prog w V ρ av v
 | [],_,_,_,_,_,h=>nomatch h
 | _ :: _,[],_,_,_,_,h=>nomatch h
 | y :: xs,a :: avs,_,av,hn,⟨v,r,e,h1,h2⟩,h=>by
  subst e
  have hn:=List.nodup_cons.mp hn
  rw [List.zip_cons_cons,List.lookup_cons] at h
  have app:∀ (l:List (Str×Value)),(∀ p∈l,p.1≠y)→(l++[(y,v)]).lookup y=some v:=by
   intro l
   induction l with
   | nil=>intro _; simp
   | cons p t ih=>
    intro hp
    have:(y==p.1)=false:=beq_eq_false_iff_ne.mpr (Ne.symm (hp p (by simp)))
    rw [List.cons_append,List.lookup_cons,this]
    exact ih fun q hq=>hp q (by simp [hq])
  have app':∀ (l:List (Str×Value)) (u:Value),l.lookup x=some u→(l++[(y,v)]).lookup x=some u:=by
   intro l u
   induction l with
   | nil=>intro h; cases h
   | cons p t ih=>
    intro h
    rw [List.lookup_cons] at h
    rw [List.cons_append,List.lookup_cons]
    cases e:x==p.1 with
    | true=>rw [e] at h; exact h
    | false=>rw [e] at h; exact ih h
  rw [List.zip_cons_cons,List.reverse_cons]
  split at h
  ·rename_i e
   have e:=eq_of_beq e
   subst e
   injection h with h; subst h
   refine ⟨by simp,v,app _ fun p hp=>?_,h1⟩
   intro q
   have:=List.of_mem_zip (List.mem_reverse.mp hp)
   exact hn.1 (q ▸ this.1)
  ·(refine ob02 (GA hn.2 h2 h) fun h3 ζ1=>?_; refine ob12 ζ1 ?_; clear ζ1; intro u h4 h5)
   exact ⟨by simp [h3],u,app' _ _ h4,h5⟩
noncomputable def Frm.call (name:Str) (sc:Scope) (L a:Addr) (cd:Value) (X fr:Addr→Prop) (frX:∀ b,fr b→X b) (G:Heap):Frm:={ env:=envOf name sc L a cd,X:=X,base:=G,fr:=fr,frX:=frX }
theorem Room.deeper (r:Room A (d+1)) (e:Env):Room (A.deeper e) d:=by
 obtain ⟨h1,h2,h3⟩:=r
 refine ⟨?_,?_,h3⟩
 ·show A.depth+1+d<_; omega
 ·show A.units+3+100*d+200<_; omega
theorem JF {G:Heap} {a:Addr} {name:Str} {params:Arguments} {body:List Stmt} {sc:Scope} {xs:List Str} (D:DefAt G a name params body sc xs) {X fr:Addr→Prop} {L:Addr} {cd:Value} (frX:∀ b,fr b→X b) (hfr:HD fr A) :
  FrmOK (Frm.call name sc L a cd X fr frX G) (A.deeper (envOf name sc L a cd)):=by
 (refine ob12 hfr ?_; clear hfr; intro l e1 e2)
 refine ⟨D.kind,rfl,rfl,envOf name sc L a cd :: l,by show A.frames.map _=_; rw [e1]; rfl,fun e he=>?_⟩
 rcases List.mem_cons.mp he with q | q
 ·subst q
  exact ⟨by show sc.kind≠_; rw [D.kind]; decide,L,rfl,.inr rfl⟩
 ·(refine ob02 (e2 e q) fun k ζ1=>?_; refine ob12 ζ1 ?_; clear ζ1; intro L' f1 f2)
  exact ⟨k,L',f1,.inl f2⟩
theorem MO {G:Heap} {a:Addr} {name:Str} {params:Arguments} {body:List Stmt} {sc:Scope} {xs:List Str} (D:DefAt G a name params body sc xs) {X fr:Addr→Prop} {L:Addr} {cd:Value} (frX:∀ b,fr b→X b) :
  StOK (Frm.call name sc L a cd X fr frX G):=⟨D.kind,fun _ _ _ h=>(nomatch h),fun _ h=>(D.noKind h).elim⟩
theorem H4 {C:Ctx} (h:C.raise=false):ExcOK prog w (fun _ _=>False) F C d A:=⟨fun q=>(by rw [h] at q; cases q),fun _ _ _ _ _ _ _ _ _ h=>h.elim⟩
theorem OK {G:Heap} {a:Addr} {name:Str} {params:Arguments} {body:List Stmt} {sc:Scope} {xs:List Str} (D:DefAt G a name params body sc xs) {X fr:Addr→Prop} {cd:Value} (frX:∀ b,fr b→X b) {s:Shared} {h₁:Heap} {t:Nat}
  (hG:∀ b o,G.get? b=some o→s.heap.get? b=some o) (hX:∀ b,X b→G.get? b=none∧∃ o,s.heap.get? b=some o) (hfrs:∀ b,fr b→∃ o,s.heap.get? b=some o∧∀ vs,o.data≠.fields vs)
  {avs:List AV} {vs:List Value} (hv:HasL prog w (VX X s.heap) [] avs vs) (hF:PyProof.Rows.Fr s.heap s.heap.objs.size h₁ (fun x=>(xs.zip vs).reverse.lookup x)) :
  Inv prog w (Frm.call name sc s.heap.objs.size a cd X fr frX G) (xs.zip avs) [] [] { s with heap:=h₁,toks:=t }:=by
 have gL:G.get? s.heap.objs.size=none:=by
  cases e:G.get? s.heap.objs.size with
  | none=>rfl
  | some o=>have:=hG _ o e; rw [AJ] at this; exact nomatch this
 have nL:∀ b o,s.heap.get? b=some o→b≠s.heap.objs.size:=fun b o e q=>by rw [q,AJ] at e; exact nomatch e
 have XL:¬ X s.heap.objs.size:=fun q=>by
  (refine ob02 (hX _ q) fun _ ζ1=>?_; refine ob11 ζ1 ?_; clear ζ1; intro o e)
  rw [AJ] at e; exact nomatch e
 have noOwn:∀ b,¬ OwnA [] [] b:=fun b ζ1=>ob22 ζ1 fun n c h _=>by simp at h
 have hvis:∀ b o,VX X s.heap b o→Vw (Frm.call name sc s.heap.objs.size a cd X fr frX G) [] [] h₁ b o:=fun b o h=>
  ⟨hF.keep b o h.1,fun q=>by
   rcases q with q | q | ⟨x,q⟩ | q
   ·exact h.2.1 q
   ·exact nL b o h.1 q
   ·exact nomatch q
   ·exact noOwn b q,h.2.2⟩
 refine ⟨fun b o e=>hF.keep b o (hG b o e),D.sm,fun b h=>?_,⟨_,hF.ns,fun x av e k=>?_⟩,fun x av e k=>(D.noKind k).elim,fun x av e=>.inl ?_,fun x c e=>(nomatch e),rfl,fun n b σ e _=>(by simp at e),fun n m b c c' h=>(by simp at h),fun b h=>(noOwn b h).elim,⟨XL,fun x c e=>(nomatch e)⟩,fun b h=>?_⟩
 ·rcases h with h | h | ⟨x,h⟩ | h
  ·(refine ob02 (hX b h) fun h1 ζ1=>?_; refine ob11 ζ1 ?_; clear ζ1; intro o h2)
   exact ⟨h1,o,hF.keep b o h2⟩
  ·have h:b=s.heap.objs.size:=h
   subst h
   refine ob32 hF.ns fun o _ _ e _=>?_
   exact ⟨gL,o,e⟩
  ·exact nomatch h
  ·exact (noOwn b h).elim
 ·(refine ob02 (GA D.nodup hv e) fun _ ζ1=>?_; refine ob12 ζ1 ?_; clear ζ1; intro v h1 h2)
  exact ⟨v,h1,Has.mono prog w hvis (fun _ _ e=>e) _ _ h2⟩
 ·exact D.locs (GA D.nodup hv e).1
 ·refine ob12 (hfrs b h) fun o h1 h2=>?_
  exact ⟨o,hF.keep b o h1,h2⟩
def WL (C:Ctx) (d n:Nat) (sc:Scope) (body:List Stmt) (xs:List Str):List AV→R AV:=fun args=>AO (Nat.beq args.length xs.length) (runF C d n sc body (xs.zip args))
theorem afT {C:Ctx} {G:Heap} {a:Addr} {name:Str} {params:Arguments} {body:List Stmt} {sc:Scope} {xs:List Str} (D:DefAt G a name params body sc xs) (hG:GOK prog w C G) (hC:C.raise=false) (n:Nat) :
  PureFn prog w G a ⟨d,WL C d n sc body xs⟩:=by
 intro X fr s A vs avs P Q E hGs hX hfrX hfrs hfr r hv h hQ
 refine ob02 (AA h) fun hz h=>?_
 have hz:avs.length=xs.length:=Nat.eq_of_beq_eq_true hz
 refine ob43 D.get fun o pm cd doc g1 g2 g3=>?_
 have hlen:=hv.length
 refine wpAny_call (call_plain (binds:=xs.zip vs) (by have:=r.depth; omega) (hGs a o g1) g2 (D.lim.keeps hGs) (g3.keeps hGs) (D.bind pm cd doc vs (hlen.trans hz)) (fun x hx=>D.locs (List.of_mem_zip hx).1) (fun h₁ hF=>?_) D.co D.gen D.kind (fun x hx=>(D.noCell x hx).1))
 have I:=OK (prog:=prog) (w:=w) D (cd:=cd) hfrX (t:=s.toks+(xs.zip vs).length) hGs hX hfrs hv hF
 have nL:∀ b o,s.heap.get? b=some o→b≠s.heap.objs.size:=fun b o e q=>by rw [q,AJ] at e; exact nomatch e
 refine F8 (EO:=fun _ _=>False) hG (r.deeper _) n _ rfl (JF D hfrX hfr) (MO D hfrX) (H4 hC) body _ [] [] _ I _ False _ _ (R.holds_bind h) (fun f s' hq=>?_) (fun hx=>hx.elim)
 (refine ob44 hq ?_; clear hq; intro fl env' sl' ρ' I' ev hf hp)
 have fin:∀ (v:Value) (av:AV),GrowF fr s s'→Has prog w (VX X s'.heap) [] av v→P av→Q v s':=fun v av g hh hp=>hQ v s' av g hh hp
 have grow:GrowF fr s s':=⟨fun b ob e=>ev.keep b ob (hF.keep b ob e) fun q=>by
  rcases q with q | ⟨x,q⟩ | ⟨n,c,q,_⟩
  ·exact nL b ob e q
  ·cases q
  ·simp at q,ev.gens,ev.drawn,ev.os⟩
 cases fl with
 | nxt=>
  have hf:f=.next:=hf
  subst hf
  exact fin .none .none grow rfl hp
 | ret av=>
  (refine ob12 hf ?_; clear hf; intro v hf hv')
  subst hf
  refine ob25 (I8 I' hv' (R.holds_bind hp)) fun o' av' I'' hh ev' hpure hp=>?_
  refine fin v av' grow (FU av' v hpure (Has.mono prog w (fun b ob q=>⟨q.1,fun z=>q.2.1 (.inl z),q.2.2⟩) (fun _ _ e=>e) _ _ hh)) hp
end
end Mine
end
section
open PySem.SeqAt
namespace Mine
section
variable {prog:Program} {w:World} {EO:Value→Shared→Prop} {F:Frm} {env:AEnv} {sl:SL} {ρ:List Addr} {s:Shared} {A:Around} {d:Nat}
def MP (C:Ctx) (d n:Nat) (sc:Scope) (body:List Stmt) (x:Str) (xs:List Str):List AV→List AV→R (List AV×AV):=fun items args=>AO (Nat.beq args.length xs.length&&D6 items) (runW C d n sc body ((x,.loc 0) :: xs.zip args) items)
theorem SZ {G:Heap} {a:Addr} {name:Str} {params:Arguments} {body:List Stmt} {sc:Scope} {x:Str} {xs:List Str} (D:DefAt G a name params body sc (x :: xs)) {X fr:Addr→Prop} {cd:Value} {wa:Addr} {s:Shared} {h₁:Heap} {t:Nat}
  (frX:∀ b,fr b→X b∧b≠wa) (hG:∀ b o,G.get? b=some o→s.heap.get? b=some o) (hX:∀ b,X b→G.get? b=none∧∃ o,s.heap.get? b=some o) (hfrs:∀ b,fr b→∃ o,s.heap.get? b=some o∧∀ vs,o.data≠.fields vs) (hwa:X wa)
  {items:List AV} {ws:List Value} {m:Nat} (hg:s.heap.get? wa=some (lstO ws m)) (hi:HasL prog w (VX X s.heap) [] items ws)
  {avs:List AV} {vs:List Value} (hv:HasL prog w (VX X s.heap) [] avs vs) (hF:PyProof.Rows.Fr s.heap s.heap.objs.size h₁ (fun y=>((x :: xs).zip (.ref wa :: vs)).reverse.lookup y)) :
  Inv prog w (Frm.call name sc s.heap.objs.size a cd (fun b=>X b∧b≠wa) fr frX G) ((x,.loc 0) :: xs.zip avs) [Slot.own (.lst items)] [wa] { s with heap:=h₁,toks:=t }:=by
 have gL:G.get? s.heap.objs.size=none:=by
  cases e:G.get? s.heap.objs.size with
  | none=>rfl
  | some o=>have:=hG _ o e; rw [AJ] at this; exact nomatch this
 have nL:∀ b o,s.heap.get? b=some o→b≠s.heap.objs.size:=fun b o e q=>by rw [q,AJ] at e; exact nomatch e
 have XL:¬ X s.heap.objs.size:=fun q=>by
  (refine ob02 (hX _ q) fun _ ζ1=>?_; refine ob11 ζ1 ?_; clear ζ1; intro o e)
  rw [AJ] at e; exact nomatch e
 have own:∀ b,OwnA [Slot.own (.lst items)] [wa] b→b=wa:=fun b ζ1=>ob22 ζ1 fun n c h1 h2=>by
  cases n with
  | zero=>simpa using h2.symm
  | succ n=>simp at h1
 have hvis:∀ b o,VX X s.heap b o→Vw (Frm.call name sc s.heap.objs.size a cd (fun b=>X b∧b≠wa) fr frX G) [Slot.own (.lst items)] [wa] h₁ b o:=fun b o h=>
  ⟨hF.keep b o h.1,fun q=>by
   rcases q with q | q | ⟨x,q⟩ | q
   ·exact h.2.1 q.1
   ·exact nL b o h.1 q
   ·exact nomatch q
   ·exact h.2.1 (own b q ▸ hwa),h.2.2⟩
 have look:∀ y av,((x,AV.loc 0) :: xs.zip avs).lookup y=some av→y∈(x :: xs)∧∃ v,((x :: xs).zip (.ref wa :: vs)).reverse.lookup y=some v∧Has prog w (Vw (Frm.call name sc s.heap.objs.size a cd (fun b=>X b∧b≠wa) fr frX G) [Slot.own (.lst items)] [wa] h₁) [wa] av v:=fun y av e=>by
  have hh:HasL prog w (Vw (Frm.call name sc s.heap.objs.size a cd (fun b=>X b∧b≠wa) fr frX G) [Slot.own (.lst items)] [wa] h₁) [wa] (.loc 0 :: avs) (.ref wa :: vs):=
   ⟨.ref wa,vs,rfl,⟨wa,rfl,rfl⟩,HasL.mono prog w hvis (fun n a e=>by simp at e) _ _ hv⟩
  exact GA (xs:=x :: xs) (avs:=.loc 0 :: avs) D.nodup hh e
 refine ⟨fun b o e=>hF.keep b o (hG b o e),D.sm,fun b h=>?_,⟨_,hF.ns,fun y av e k=>(look y av e).2⟩,fun y av e k=>(D.noKind k).elim,fun y av e=>.inl (D.locs (look y av e).1),fun y c e=>(nomatch e),rfl,fun n b σ e1 e2=>?_,fun n m b c c' h1 h2 _ _=>?_,fun b h=>?_,⟨fun q=>XL q.1,fun y c e=>(nomatch e)⟩,fun b h=>?_⟩
 ·rcases h with h | h | ⟨y,h⟩ | h
  ·(refine ob02 (hX b h.1) fun h1 ζ1=>?_; refine ob11 ζ1 ?_; clear ζ1; intro o h2)
   exact ⟨h1,o,hF.keep b o h2⟩
  ·have h:b=s.heap.objs.size:=h
   subst h
   refine ob32 hF.ns fun o _ _ e _=>?_
   exact ⟨gL,o,e⟩
  ·exact nomatch h
  ·have:=own b h
   subst this
   exact ⟨(hX _ hwa).1,_,hF.keep _ _ hg⟩
 ·cases n with
  | zero=>
   have e1:wa=b:=by simpa using e1
   have e2:Slot.own (.lst items)=σ:=by simpa using e2
   subst e1 e2
   exact ⟨ws,m,hF.keep _ _ hg,HasL.mono prog w hvis (fun n a e=>by simp at e) _ _ hi⟩
  | succ n=>simp at e1
 ·cases n with
  | zero=>cases m with
   | zero=>rfl
   | succ m=>simp at h2
  | succ n=>simp at h1
 ·have:=own b h
  subst this
  exact ⟨nL _ _ hg,fun y q=>(nomatch q),fun q=>q.2 rfl⟩
 ·refine ob12 (hfrs b h) fun o h1 h2=>?_
  exact ⟨o,hF.keep b o h1,h2⟩
theorem PX {C:Ctx} {G:Heap} {a:Addr} {name:Str} {params:Arguments} {body:List Stmt} {sc:Scope} {x:Str} {xs:List Str} (D:DefAt G a name params body sc (x :: xs)) (hG:GOK prog w C G) (hC:C.raise=false) (n:Nat) :
  WellFn prog w G a ⟨d,MP C d n sc body x xs⟩:=by
 intro X fr s A wa ws m items vs avs P Q E hGs hX hfrX hfrs hfr r hwa hnf hg hi hv h hQ
 refine ob02 (AA h) fun hz h=>?_
 simp only [Bool.and_eq_true] at hz
 have hz1:avs.length=xs.length:=Nat.eq_of_beq_eq_true hz.1
 refine ob43 D.get fun o pm cd doc g1 g2 g3=>?_
 have hlen:=hv.length
 have frX':∀ b,fr b→X b∧b≠wa:=fun b hb=>⟨hfrX b hb,fun e=>hnf (e ▸ hb)⟩
 refine wpAny_call (call_plain (binds:=(x :: xs).zip (.ref wa :: vs)) (by have:=r.depth; omega) (hGs a o g1) g2 (D.lim.keeps hGs) (g3.keeps hGs) (D.bind pm cd doc _ (by simp [hlen,hz1])) (fun y hy=>D.locs (List.of_mem_zip hy).1) (fun h₁ hF=>?_) D.co D.gen D.kind (fun y hy=>(D.noCell y hy).1))
 have I:=SZ (prog:=prog) (w:=w) D (cd:=cd) (t:=s.toks+((x :: xs).zip (Value.ref wa :: vs)).length) frX' hGs hX hfrs hwa hg hi hv hF
 have nL:∀ b o,s.heap.get? b=some o→b≠s.heap.objs.size:=fun b o e q=>by rw [q,AJ] at e; exact nomatch e
 refine F8 (EO:=fun _ _=>False) hG (r.deeper _) n _ rfl (JF D frX' hfr) (MO D frX') (H4 hC) body _ _ [wa] _ I _ False _ _ (R.holds_bind h) (fun f s' hq=>?_) (fun hx=>hx.elim)
 (refine ob44 hq ?_; clear hq; intro fl env' sl' ρ' I' ev hf hp)
 cases fl with
 | nxt=>exact hp.elim
 | ret av=>
  (refine ob12 hf ?_; clear hf; intro v hf hv')
  subst hf
  refine ob25 (I8 I' hv' (R.holds_bind hp)) fun o' av' I'' hh ev' hpure hp=>?_
  have hp:(match (o'.getD sl')[0]? with
   | some (Slot.own (.lst l))=>(match D6 l with
    | true=>.ret (l,av')
    | false=>.fail)
   | _=>.fail:R (List AV×AV)).Holds P False:=hp
  split at hp
  ·rename_i l hs
   split at hp
   ·rename_i hpl
    have hw0:ρ'[0]?=some wa:=ev.ext 0 wa rfl
    refine ob22 (I''.slots 0 wa _ hw0 hs) fun ws' m' k1 k2=>?_
    have vis:∀ b ob,Vw (Frm.call name sc s.heap.objs.size a cd (fun b=>X b∧b≠wa) fr frX' G) (o'.getD sl') ρ' s'.heap b ob→VX X s'.heap b ob:=fun b ob q=>⟨q.1,fun z=>by
     by_cases e:b=wa
     ·subst e
      exact q.2.1 (.inr (.inr (.inr ⟨0,_,hs,hw0⟩)))
     ·exact q.2.1 (.inl ⟨z,e⟩),q.2.2⟩
    refine hQ v s' l ws' m' av' (fun b ob hb e=>ev.keep b ob (hF.keep b ob e) fun q=>?_) ev.gens ev.drawn ev.os k1 (CW l ws' hpl (HasL.mono prog w vis (fun _ _ e=>e) _ _ k2)) (FU av' v hpure (Has.mono prog w vis (fun _ _ e=>e) _ _ hh)) hp
    rcases q with q | ⟨y,q⟩ | ⟨n,c,q,q'⟩
    ·exact nL b ob e q
    ·cases q
    ·cases n with
     | zero=>exact hb (by simpa using q'.symm)
     | succ n=>simp at q
   ·exact hp.elim
  ·exact hp.elim
end
end Mine
end
section
open PySem.SeqAt
namespace Mine
section
variable {prog:Program} {w:World} {A:Around} {s:Shared}
noncomputable abbrev bmE:List Value:=[.type "Exception",.type "BaseException",.type "object"]
theorem WM:findCls [] (.type "Exception") (.type "type") "__init__" = some (.val (.builtin "Exception.__init__")):=by first | rfl | kernel_rfl
theorem aaN (h:Heap):Frag.In [] h:=fun _ _ hq=>nomatch hq
section
variable {E:Value→Shared→Prop} {env:Env} {h₀:Heap} {L:Addr} {m:Str→Option Value}
theorem MQ {np apos pos:Pos} {args:List Expr} {Q:Value→Shared→Prop} (hF:PyProof.Rows.Fr h₀ L s.heap m) (hl:(apos.endLine==pos.line)=true) (hn:CG args=true) (hz:args.length<20)
  (hname:∀ (Q:Value→Shared→Prop),Q (.type "Exception") s→wpAny (model prog w) A (eval (.Name "Exception" np) env) Q E s)
  (h:wpAny (model prog w) A (spliced (backTo pos (starEach args env))) (fun vs s₁=>wpAny (model prog w) A (call (.builtin "Exception.__init__") vs) Q E s₁) E { s with toks:=s.toks+1 }) :
  wpAny (model prog w) A (eval (.Call (.Attribute (.Name "Exception" np) "__init__" apos) args [] pos) env) Q E s:=by
 have hbase:attributeBase (.Name "Exception" np) "__init__" env (eval (.Name "Exception" np) env)=eval (.Name "Exception" np) env:=by
  rfl
 have hp:=BA (env:=env) (pos:=pos) hn
 have hfew:((backTo pos (starEach args env)).all (fun x=>!x.1)&&(backToKw pos (keywordEach [] env)).all (fun x=>x.1.isSome)
   && decide (args.length+([]:List Keyword).length+(if ([]:List Keyword).isEmpty then 0 else 1)<30))=true:=by
  rw [hp.2]
  simp only [show keywordEach [] env=[] from rfl,backToKw,List.map_nil,List.all_nil,Bool.true_and,List.length_nil,Nat.add_zero,List.isEmpty_nil,if_true,decide_eq_true_eq]
  omega
 have hform:methodCallForm (args.length+([]:List Keyword).length) (backTo pos (starEach args env)) (backToKw pos (keywordEach [] env))=true:=hfew
 have hpos:methodCallPos true (.Name "Exception" np) env apos pos=pure pos:=by unfold methodCallPos; simp [hl]
 rw [arm_eval_Call,hbase]
 refine wpAny_bind (hname _ (wpAny_bind (wpAny_standAt ?_)))
 unfold methodCall
 rw [hform]
 refine wpAny_bind (wpAny_holding (method_type (T := "Exception") (v:=.builtin "Exception.__init__") (K:=[]) hF (aaN _) (by first | rfl | kernel_rfl) (by decide +kernel) WM (by decide +kernel) ?_))
 refine wpAny_bind (wpAny_of_eq hpos ?_)
 exact callWith_builtin hp.1 (CN hn h)
end
theorem OL {h:Heap} {g:Array GenState} {d:Drawn} {t:Nat} {os:OsState} {E:Value→Shared→Prop} {nm q:Str} {C N:Addr} {bs:List Value} {hdct:Bool} {sn:List Str} {sub:List Value} {ab:Bool} {col:Option Bool} {dd:Option Addr} {k0 k1 k2 k3 k5:Option Value}
  {e:Addr} {oe:Obj} {vs:Array Value} {rest:List Value} {Q:Value→Shared→Prop}
  (hC:h.get? C=some (excClassObj nm q C N bs bmE hdct sn sub ab col dd k0 k1 k2 k3 k5 "Exception.__new__")) (he:h.get? e=some oe) (hc:oe.cls=.ref C) (hd:oe.data=.fields vs) (h6:vs.size=6) {t0:Addr} (h0:vs[0]?=some (.ref t0)) (hz:rest.length≤sizeLine)
  (hQ:∀ h' oe',(∀ b o,b≠e→h.get? b=some o→h'.get? b=some o)→h'.get? e=some oe'→oe'.cls=.ref C→oe'.dict=oe.dict→oe'.data=.fields (vs.setIfInBounds 0 (.ref h.objs.size))→h.get? h.objs.size=none→Q .none ⟨h',g,d,t,os⟩) :
  wpAny (model prog w) A (call (.builtin "Exception.__init__") (.ref e :: rest)) Q E ⟨h,g,d,t,os⟩:=by
 have F:=PySem.F.excBase_Exception
 refine wpAny_call (codeAny_call_builtin F.init.plain F.initEntry (wpAny_check_init_sub F hC he hc ?_))
 have h1:0<vs.size:=by omega
 obtain ⟨oc,od,odt,osl⟩:=oe
 simp only at hc hd
 subst hc hd
 unfold Builtin.«BaseException.__init__»
 wp_walk
 rw [h0]
 wp_walk
 have hp:=Heap.get?_push_of_some (h:=h) { cls:=Value.type "tuple",data:=Data.seq rest.toArray } he
 refine hQ _ { cls:=.ref C,dict:=od,data:=.fields (vs.setIfInBounds 0 (.ref h.objs.size)),slots:=osl } (fun b o hb e=>?_) ?_ rfl rfl rfl (AJ h)
 ·exact (Heap.get?_update_other _ _ (Ne.symm hb)).trans (Heap.get?_push_of_some _ e)
 ·exact Heap.get?_update_self _ hp rfl
end
end Mine
end
section
open PySem.SeqAt
open PySem.Builtin PySem.Builtin.ObjectAttr
namespace Mine
section
section
variable {prog:Program} {w:World} {A:Around} {E:Value→Shared→Prop} {h:Heap} {g:Array GenState} {d:Drawn} {t:Nat} {os:OsState}
variable {nm q:Str} {C N x:Addr} {bs:List Value} {sn:List Str} {sub:List Value} {ab:Bool} {col:Option Bool} {dd:Option Addr} {k0 k1 k2 k3 k5:Option Value}
 {mN:Str→Option Value} {name:Str} {v:Value} {vs:Array Value} {sl:Array (Option Value)}
theorem S0 {tk:Tok} {Q:Fin→Shared→Prop} (hC:h.get? C=some (excClassObj nm q C N bs bmE true sn sub ab col dd k0 k1 k2 k3 k5 "Exception.__new__")) (hn:h.Ns N mN) (hna:mN name=none)
  (hB:typeLookup (.type "Exception") name=pure none) {od:Option Addr} (hdn:od=none) (hx:h.get? x=some ⟨.ref C,od,.fields vs,sl⟩)
  (hq:∀ h' tk',(∀ b o,b≠x→h.get? b=some o→h'.get? b=some o)→h'.get? x=some ⟨.ref C,some h.objs.size,.fields vs,sl⟩→h'.Ns1 h.objs.size (fun y=>if y=name then some v else none)→Q (.done (.ret .none)) ⟨h',g,d,tk',os⟩) :
  wpAny (model prog w) A (Builtin.«object.__setattr__» ⟨[.ref x,.str name tk,v],[]⟩) Q E ⟨h,g,d,t,os⟩:=by
 have SF:=PySem.F.store_Exception
 have hpass:=SF.passes (.ref x)
 unfold Builtin.«object.__setattr__»
 repeat (first | rw [refuse_eq] | (rw [refuseLoop_ref,hpass]) | (with_reducible refine wpAny_loadPart_at hx ?_) | with_reducible refine wpAny_mroOf_exc hC ?_ | (with_reducible refine wpAny_typeLookup_exc hC hn SF.mro hB ?_; rw [hna]) | wp_step)
 subst hdn
 have hx₁:=Heap.get?_push_of_some (h:=h) { cls:=Value.type "dict",data:=Data.dict #[] } hx
 have hxs:x≠h.objs.size:=Nat.ne_of_lt (Heap.lt_size hx)
 dsimp only
 rw [if_neg (by simp [typeHasDict])]
 refine wpAny_bind (wpAny_alloc' (wpAny_bind (wpAny_update' hx₁ (wpAny_pure ?_))))
 let H:=(h.push { cls:=.type "dict",data:=.dict #[] }).update x fun o=>{ cls:=o.cls,dict:=some h.objs.size,data:=o.data,slots:=o.slots }
 have hgd:H.get? h.objs.size=some { cls:=.type "dict",data:=.dict #[] }:=(Heap.get?_update_ne _ _ _ _ hxs.symm).trans (Heap.get?_push_at rfl rfl)
 have hgx:H.get? x=some ⟨.ref C,some h.objs.size,.fields vs,sl⟩:=Heap.get?_update_self _ hx₁ rfl
 have hnd:H.Ns h.objs.size (fun _=>none):=⟨_,#[],_,hgd,rfl,fun e he=>absurd he (by simp),fun _=>rfl⟩
 show wpAny _ _ (storeInDict h.objs.size (.str name tk) name v) _ _ _
 unfold storeInDict newKeyGuard
 refine wpAny_bind (wpAny_pure (wpAny_bind (wpAny_nsSet1 (Heap.Ns1.of_empty hnd) fun h' hn' hs=>?_)))
 refine ob33 (hn'.count (Within.cons name v Within.nil)) fun oD esD epD hoD hdD hcD=>?_
 refine wpAny_bind (wpAny_lookBehind hoD (by rw [hdD]; exact pastItsLine_dict (Nat.le_trans hcD (by rw [List.length_cons,List.length_nil,sizeLine_eq]; omega))) ?_)
 wp_walk
 exact hq h' _ (fun b o hb e=>(hs.2 b (Nat.ne_of_lt (Heap.lt_size e))).trans ((Heap.get?_update_ne _ _ _ _ hb).trans (Heap.get?_push_of_some _ e))) ((hs.2 x hxs).trans hgx) hn'
theorem WN {Q:Unit→Shared→Prop} (hC:h.get? C=some (excClassObj nm q C N bs bmE true sn sub ab col dd k0 k1 k2 k3 k5 "Exception.__new__")) (hn:h.Ns N mN) (hns:mN "__setattr__" = none) (hna:mN name=none)
  (hB:typeLookup (.type "Exception") name=pure none) (hx:h.get? x=some ⟨.ref C,none,.fields vs,sl⟩)
  (hq:∀ h' tk',(∀ b o,b≠x→h.get? b=some o→h'.get? b=some o)→h'.get? x=some ⟨.ref C,some h.objs.size,.fields vs,sl⟩→h'.Ns1 h.objs.size (fun y=>if y=name then some v else none)→Q () ⟨h',g,d,tk',os⟩) :
  wpAny (model prog w) A (setAttr (.ref x) name v) Q E ⟨h,g,d,t,os⟩:=by
 have SF:=PySem.F.store_Exception
 have f3:=SF.slot.bind (.ref x)
 unfold setAttr callSpecial? specialOf
 repeat (any_goals (first | assumption | (with_reducible refine wpAny_loadPart_at hx ?_) | (with_reducible refine wpAny_typeLookup_exc hC hn SF.mro SF.slot.lookup ?_; rw [hns]) | wp_step))
 rw [show [Value.ref x]++[Value.str name t,v]=[.ref x,.str name t,v] from rfl]
 generalize hsa : "object.__setattr__" = sa at SF ⊢
 refine codeAny_call_builtin SF.slot.plain SF.entry ?_
 refine wpAny_check_sa SF hC hx rfl ?_
 refine S0 hC hn hna hB rfl hx fun h' tk' hk hx' hn'=>?_
 repeat (any_goals (first | assumption | wp_step))
 exact hq h' tk' hk hx' hn'
theorem aaO {Q:Unit→Shared→Prop} {dx:Addr} {mA:Str→Option Value} {ns:List Str} (hC:h.get? C=some (excClassObj nm q C N bs bmE true sn sub ab col dd k0 k1 k2 k3 k5 "Exception.__new__")) (hn:h.Ns N mN) (hns:mN "__setattr__" = none) (hna:mN name=none)
  (hB:typeLookup (.type "Exception") name=pure none) (hx:h.get? x=some ⟨.ref C,some dx,.fields vs,sl⟩) (hxC:x≠C) (hdx:dx≠x) (hd:h.Ns1 dx mA) (hw:Within mA ns) (hz:ns.length≤sizeLine)
  (hq:∀ h' tk',(∀ b o,b≠x→b≠dx→h.get? b=some o→h'.get? b=some o)→(∃ o₁,h'.get? x=some o₁∧o₁.cls=.ref C∧o₁.data=.fields vs)→Q () ⟨h',g,d,tk',os⟩) :
  wpAny (model prog w) A (setAttr (.ref x) name v) Q E ⟨h,g,d,t,os⟩:=by
 refine store_attr (mA:=mA) PySem.F.store_Exception hC hn hns hna hB hxC ⟨_,hx,rfl,fun c q=>(nomatch q),.inr ⟨dx,rfl,hdx,hd⟩⟩ (fun h' tk' _ hk hs=>hq h' tk' (fun b o hb hbd e=>hk b o hb (fun o₀ dx' e1 e2=>?_) e) ?_) hw hz
 ·rw [hx] at e1
  injection e1 with e1
  subst e1
  injection e2 with e2
  subst e2
  exact hbd
 ·refine ob14 (hs _ hx) fun o₁ e1 e2 e3 _=>?_
  exact ⟨o₁,e1,e2,e3⟩
end
end
end Mine
end
section
open PySem.SeqAt
namespace Mine
section
variable {prog:Program} {w:World} {A:Around} {s:Shared}
noncomputable def aaP (p1 p2 p3 p4 p5 p6 p7 p8 p9 p10 p11 p12 p13 p14:Pos):List Stmt:=
 [.Expr (.Call (.Attribute (.Name "Exception" p1) "__init__" p2) [.Name "self" p3,.Name "word" p4] [] p5) p6,
  .Assign [.Attribute (.Name "self" p7) "word" p8] (.Name "word" p9) p10,
  .Assign [.Attribute (.Name "self" p11) "line" p12] (.Name "line" p13) p14]
noncomputable abbrev aqO:List Stmt:=aaP ⟨5,8,5,17⟩ ⟨5,8,5,26⟩ ⟨5,27,5,31⟩ ⟨5,33,5,37⟩ ⟨5,8,5,38⟩ ⟨5,8,5,38⟩ ⟨6,8,6,12⟩ ⟨6,8,6,17⟩ ⟨6,20,6,24⟩ ⟨6,8,6,24⟩ ⟨7,8,7,12⟩ ⟨7,8,7,17⟩ ⟨7,20,7,24⟩ ⟨7,8,7,24⟩
noncomputable abbrev afO (C N:Addr):Obj:=excClassObj "AssemblyFault" "AssemblyFault" C N [.type "Exception"] bmE true [] [] false none none (some (.ref 15)) none (some (.str "AssemblyFault" 189)) (some (.str "AssemblyFault" 197)) (some (.bool true)) "Exception.__new__"
structure InitF (fd:FuncData):Prop where
 body:fd.body=.stmts aqO
 gl:fd.globals=mainGlobals
 bu:fd.builtins=builtinsNs
 bind:∀ vals:List Value,vals.length=3→bindArgs fd ⟨vals,[]⟩=pure ((["self","word","line"]:List Str).zip vals)
 kind:fd.scope.kind=.function
 co:fd.scope.isCoroutine=false
 gen:fd.scope.isGenerator=false
 cell:∀ x∈fd.scope.names,x.2≠.cell
 self:fd.scope.names.lookup ("self" : Str)=some .local
 word:fd.scope.names.lookup ("word" : Str)=some .local
 line:fd.scope.names.lookup ("line" : Str)=some .local
 exc:fd.scope.names.lookup ("Exception" : Str)=some .globalImplicit
structure AFat (h:Heap) (C N fI:Addr):Prop where
 cls:h.get? C=some (afO C N)
 ns:∃ mN,h.Ns N mN∧mN "__init__" = some (.ref fI)∧mN "__setattr__" = none∧mN "word" = none∧mN "line" = none
 init:∃ o fd,h.get? fI=some o∧o.cls=.type "function" ∧ o.data=.func fd∧h.CodeRec fd.code fd.qualname∧InitF fd
 lim:h.NoLimit
 glob:∃ mg mb,h.Ns mainGlobals mg∧h.Ns builtinsNs mb∧mg "Exception" = none∧mb "Exception" = some (.type "Exception")
theorem WO:typeLookup (.type "Exception") "word" = pure none:=by rw [typeLookup_type,builtinLookup_eq_fast]; kernel_rfl
theorem WP:typeLookup (.type "Exception") "line" = pure none:=by rw [typeLookup_type,builtinLookup_eq_fast]; kernel_rfl
theorem AFat.keeps {h h':Heap} {C N fI:Addr} (x:AFat h C N fI) (k:∀ b o,h.get? b=some o→h'.get? b=some o):AFat h' C N fI where
 cls:=k _ _ x.cls
 ns:=ob12 x.ns fun mN n r=>⟨mN,n.keeps k,r⟩
 init:=ob25 x.init fun o fd f1 f2 f3 f8 r=>⟨o,fd,k _ _ f1,f2,f3,f8.keeps k,r⟩
 lim:=x.lim.keeps k
 glob:=ob23 x.glob fun mg mb g1 g2 r=>⟨mg,mb,g1.keeps k,g2.keeps k,r⟩
structure MadeAF (h h':Heap) (e C:Addr):Prop where
 keeps:∀ b o,h.get? b=some o→h'.get? b=some o
 new:h.get? e=none
 there:∃ o vs t,h'.get? e=some o∧o.cls=.ref C∧o.data=.fields vs∧vs.size=6∧vs[0]?=some (.ref t)∧vs[1]?=some .none
theorem afU {h h₁:Heap} {g:Array GenState} {d:Drawn} {t:Nat} {os:OsState} {C N fI e:Addr} {wv lv:Value} {E:Value→Shared→Prop} {Q:Value→Shared→Prop} (hd:A.depth<recursionLimit) (X:AFat h C N fI) (M:Heap.MadeExcOf h h₁ e (.ref C) [wv,lv])
  (hQ:∀ h' t',MadeAF h h' e C→Q .none ⟨h',g,d,t',os⟩):wpAny (model prog w) A (call (.ref fI) [.ref e,wv,lv]) Q E ⟨h₁,g,d,t,os⟩:=by
 refine ob13 M.there fun tt me mtn mt=>?_
 have hCe:C≠e:=fun q=>by
  have hC:=X.cls
  rw [q,M.new] at hC; exact A0 hC
 refine ob15 X.ns fun mN n1 _ n3 n4 n5=>ob25 (X.keeps M.keeps).init fun o fd f1 f2 f3 f8 K=>ob24 (X.keeps M.keeps).glob fun mg mb g1 g2 g3 g4=>?_
 have f4:=K.body
 have s1:=K.kind
 refine wpAny_call (codeAny_call_def (binds:=(["self","word","line"]:List Str).zip [.ref e,wv,lv]) hd f1 f3 (X.lim.keeps M.keeps) f8 f4 (.of_eq (K.bind _ rfl)) K.cell (fun x hx=>?_) (fun h₀ hns hk=>?_) K.co K.gen s1)
 ·simp only [List.zip_cons_cons,List.zip_nil_right,List.mem_cons,List.not_mem_nil,or_false] at hx
  rcases hx with rfl | rfl | rfl
  ·exact K.self
  ·exact K.word
  ·exact K.line
 have nL:∀ b o,h₁.get? b=some o→b≠h₁.objs.size:=fun b o e q=>by rw [q,AJ] at e; exact nomatch e
 have heL:e≠h₁.objs.size:=nL e _ me
 let L:=h₁.objs.size
 let env:=callEnv fd L fI
 let m:Str→Option Value:=fun x=>((["self","word","line"]:List Str).zip [Value.ref e,wv,lv]).reverse.lookup x
 have kS:env.kindOf ("self" : Str)=some .local:=K.self
 have kW:env.kindOf ("word" : Str)=some .local:=K.word
 have kL:env.kindOf ("line" : Str)=some .local:=K.line
 have kE:env.scope.names.lookup ("Exception" : Str)=some .globalImplicit:=K.exc
 have keep₀:∀ b o,h₁.get? b=some o→h₀.get? b=some o:=hk
 have loc:∀ {M:Model} {A:Around} {E:Value→Shared→Prop} {x:Str} {p:Pos} {v:Value} {s:Shared} {Q:Value→Shared→Prop},env.kindOf x=some .local→s.heap.Ns L m→m x=some v→Q v s→(x==("__debug__" : Str))=false→wpAny M A (eval (.Name x p) env) Q E s:=
  fun k n v q d=>wpAny_Name (wpAny_loadName_local s1 k n v q) d
 have mS:m "self" = some (.ref e):=rfl
 have mW:m "word" = some wv:=rfl
 have mL:m "line" = some lv:=rfl
 refine wpAny_execs_cons (wpAny_Expr_any (MQ (h₀:=h₁) (L:=L) (m:=m) ⟨hns,keep₀,Nat.le_refl _⟩ rfl rfl (by simp)
  (fun Q hq=>Name_function_global s1 kE (loadGlobal_builtin (mg:=mg) (mb:=mb) (by show h₀.Ns fd.globals mg; rw [K.gl]; exact g1.keeps keep₀) g3 (by show h₀.Ns fd.builtins mb; rw [K.bu]; exact g2.keeps keep₀) g4 hq) (by decide)) ?_)
  (by unfold interactive; rw [show (callEnv fd h₁.objs.size fI).scope.kind=_ from s1]; rfl) rfl)
 refine spliced_cons (loc kS hns mS (spliced_cons (loc kW hns mW (spliced_nil ?_) (by decide))) (by decide))
 refine OL (keep₀ _ _ (M.keeps _ _ X.cls)) (keep₀ _ _ me) rfl rfl rfl rfl (BM (by simp)) fun h₂ oe₂ k₂ e₂ c₂ d₂ dt₂ hnew=>?_
 have hns₂:h₂.Ns L m:=hns.at fun o e=>k₂ _ o (Ne.symm heL) e
 have old₂:∀ b o,h.get? b=some o→h₂.get? b=some o:=fun b o q=>k₂ b o (fun z=>by rw [z,M.new] at q; cases q) (keep₀ b o (M.keeps b o q))
 obtain ⟨oc₂,od₂,odt₂,osl₂⟩:=oe₂
 simp only at c₂ d₂ dt₂
 subst c₂ d₂ dt₂
 refine wpAny_execs_cons (plainObj_wpAny_Assign_Attribute (loc kW hns₂ mW (loc kS hns₂ mS ?_ (by decide)) (by decide)) rfl)
 refine WN (old₂ _ _ X.cls) (n1.keeps old₂) n3 n4 WO e₂ fun h₃ t₃ k₃ e₃ x₃=>?_
 have old₃:∀ b o,h.get? b=some o→h₃.get? b=some o:=fun b o q=>k₃ b o (fun z=>by rw [z,M.new] at q; cases q) (old₂ b o q)
 have hns₃:h₃.Ns L m:=hns₂.at fun o e=>k₃ _ o (Ne.symm heL) e
 have ndx:∀ b o,h₂.get? b=some o→b≠h₂.objs.size:=fun b o e q=>by rw [q,AJ] at e; exact nomatch e
 refine wpAny_execs_cons (plainObj_wpAny_Assign_Attribute (loc kL hns₃ mL (loc kS hns₃ mS ?_ (by decide)) (by decide)) rfl)
 refine aaO (old₃ _ _ X.cls) (n1.keeps old₃) n3 n5 WP e₃ (Ne.symm hCe) (Ne.symm (ndx e _ e₂)) x₃ (Within.cons _ _ Within.nil) (by decide) fun h₄ t₄ k₄ ζ1=>ob13 ζ1 fun o₄ e₄ c₄ d₄=>?_
 refine wpAny_execs_nil ?_
 refine hQ h₄ t₄ ⟨fun b o q=>k₄ b o (fun z=>by rw [z,M.new] at q; cases q) (fun z=>ndx b o (old₂ b o q) z) (old₃ b o q),M.new,o₄,_,_,e₄,c₄,d₄,rfl,rfl,rfl⟩
end
end Mine
end
section
open PySem.SeqAt
namespace Mine
section
variable {prog:Program} {w:World} {EO:Value→Shared→Prop} {F:Frm} {env:AEnv} {sl:SL} {ρ:List Addr} {s:Shared} {A:Around} {d:Nat}
def EOA (L:Addr) (fr:Addr→Prop) (C:Addr) (e:Value) (s:Shared):Prop:=
 ∃ a oe vs t,e=.ref a∧s.heap.get? a=some oe∧oe.cls=.ref C∧oe.data=.fields vs∧vs[0]?=some (.ref t) ∧
  (vs[1]?=some .none∨∃ T oT ts,vs[1]?=some (.ref T)∧T≠a∧s.heap.get? T=some oT∧oT.data=.fields ts∧ts[3]?=some (rawInt L)) ∧
  (∀ b,(fr b∨b=L)→∃ o,s.heap.get? b=some o∧∀ vs,o.data≠.fields vs)
theorem MR {env:Env} {E:Value→Shared→Prop} {C N:Addr}
  {x:Sem Value} {Q:Flow→Shared→Prop} (hh:A.handled=none)
  (h:wpAny (model prog w) A x (fun v s₁=>∃ e o vs,v=.ref e∧s₁.heap.get? C=some (afO C N) ∧
   s₁.heap.get? e=some o∧o.cls=.ref C∧o.data=.fields vs∧vs[1]?=some .none∧E (.ref e) s₁) E s) :
  wpAny (model prog w) A (raiseStmt env (some x) none) Q E s:=by
 have hcB:(Value.ref C :: bmE).contains (.type "BaseException")=true:=by rw [List.contains_cons,PySem.F.excBase_Exception.hasBase,Bool.or_true]
 unfold raiseStmt
 refine wpAny_bind (wpAny_mono h (fun v s₁ h₁=>?_) fun _ _ x=>x)
 (refine ob37 h₁ ?_; clear h₁; intro e o vs ζ1 hC he hc hd h1 hE; subst ζ1)
 obtain ⟨hp,g,dr,tk,os⟩:=s₁
 obtain ⟨oc,od,odt,osl⟩:=o
 simp only at hc hd
 subst hc hd
 repeat (first | with_reducible refine wpAny_loadPart_at he ?_ | with_reducible refine wpAny_loadPart_at hC ?_ | (with_reducible refine wpAny_isSubtype_exc hC ?_; rw [hcB]) | wp_step)
 rw [h1]
 refine wpAny_pure ?_
 rw [if_neg (by decide)]
 exact wpAny_pure (wpAny_raiseNew_none hh hE)
theorem OM {C N fI:Addr} {wv lv:Value} {E:Value→Shared→Prop} {Q:Value→Shared→Prop} {s:Shared} (hd:A.depth+1<recursionLimit) (X:AFat s.heap C N fI)
  (hQ:∀ h' t' e,MadeAF s.heap h' e C→Q (.ref e) { s with heap:=h',toks:=t' }):wpAny (model prog w) A (call (.ref C) [wv,lv]) Q E s:=by
 obtain ⟨h,g,dr,tk,os⟩:=s
 refine ob13 X.ns fun mN n1 n2 _=>ob23 X.init fun o fd f1 f2 _=>?_
 refine wpAny_call_exc_init PySem.F.excBase_Exception X.cls n1 n2 f1 f2 (fun h' e M=>?_) (BM (by simp))
 exact afU (by show A.depth+(Code.builtin "type.__call__" ⟨[.ref C,wv,lv],[]⟩).weight<_; rw [show (Code.builtin "type.__call__" ⟨[.ref C,wv,lv],[]⟩).weight=1 from by kernel_rfl]; exact hd) X M fun h₂ t₂ M₂=>⟨rfl,hQ h₂ t₂ e M₂⟩
theorem aaQ {C:Ctx} {Ca N fI:Addr} (hF:FOK F C prog w A) (r:Room A d) (hd1:1≤d) (hX:AFat F.base Ca N fI) (hm:∀ mg,F.base.Ns mainGlobals mg→mg "AssemblyFault" = some (.ref Ca)) (hn:F.env.scope.names.lookup ("AssemblyFault" : Str)=some .globalImplicit)
  {ev:Expr→SL→RE} (hev:Ok prog w EO F env A ev) (hEO:EO=EOA F.env.locals F.fr Ca) (I:Inv prog w F env sl ρ s) {args:List Expr} {p cpos pos:Pos} {X:Prop} {Q:Flow→Shared→Prop} {E:Value→Shared→Prop} (hns:CG args=true) (h2:args.length=2)
  (h:(evL ev args sl).Holds (fun _=>X) X) (hE:OnExc prog w EO F sl ρ s X E) :
  wpAny (model prog w) A (exec (.Raise (some (.Call (.Name "AssemblyFault" p) args [] cpos)) none pos) F.env) Q E s:=by
 refine ob23 hF.glob.names fun mg mb n1 n2 _=>?_
 rw [arm_exec_Raise]
 have hC:=hX.cls
 refine wpAny_bind (wpAny_standAt (MR (C:=Ca) (N:=N) r.hand
  (wpAny_bind (wpAny_mono (wpAny_Call_ofName (Name_function_global hF.frm.kind hn (loadGlobal_global (mg:=mg) (by rw [hF.frm.glob]; exact n1.keeps I.base) (hm mg n1) ?_) (by decide))) (fun v s₃ h₃=>wpAny_bind (wpAny_standAt (wpAny_pure h₃))) fun _ _ x=>x))))
 unfold callWith
 refine wpAny_bind (wpAny_holding (CN hns (GH hev cpos args sl ρ s I _ X _ _ (PQ args sl _ h) (fun vs s₁ h₁=>wpAny_bind (wpAny_standAt ?_)) hE)))
 (refine ob35 h₁ ?_; clear h₁; intro o l ρ₁ I₁ hl ev₁ hx hll)
 have hll:l.length=2:=by rw [← h2]; exact hll
 have hvl:=hl.length
 rw [hll] at hvl
 (refine ob21 (len2 (P:=fun vs=>∃ v1 v2,vs=[v1,v2]) (fun a b=>⟨a,b,rfl⟩) vs hvl) ?_; clear hvl; intro wv lv evs; subst evs)
 ·skip
  have hC₁:=I₁.base _ _ hC
  obtain ⟨hp,g,dr,tk,os⟩:=s₁
  simp only [(BA hns).1]
  refine wpAny_bind (wpAny_keeperOf_exc hC₁ ?_)
  refine wpAny_bind (OM (s:=⟨hp,g,dr,tk,os⟩) (by have:=r.depth; omega) (hX.keeps I₁.base) fun h' t' e M=>wpAny_bind (wpAny_holding (wpAny_point (wpAny_pure ?_))))
  refine ob36 M.there fun oe us t e1 e2 e3 e4 e5 e6=>?_
  refine ⟨e,oe,us,rfl,M.keeps _ _ hC₁,e1,e2,e3,e6,?_⟩
  refine (hE.after ev₁) hx (.ref e) _ ⟨fun a ob q _=>.of (M.keeps a ob q),rfl,rfl,rfl,fun a ob q=>⟨ob,M.keeps a ob q⟩⟩ (fun a ha=>?_) ?_
  ·refine ha.elim (fun ha=>Value.ref.inj ha ▸ M.new) fun ha=>ob34 ha fun x ox ws ha q1 q2 q3=>?_
   have q1:h'.get? x=some ox:=q1
   rw [← Value.ref.inj ha,e1] at q1
   rw [← Option.some.inj q1,e3] at q2
   rw [← Data.fields.inj q2,e6] at q3; exact nomatch q3
  ·subst hEO
   exact ⟨e,oe,us,t,rfl,e1,e2,e3,e5,.inl e6,fun b hb=>ob12 (I₁.around1 b hb) fun ob k1 k2=>⟨ob,M.keeps b ob k1,k2⟩⟩
end
end Mine
end
section
open PySem.SeqAt
namespace Mine
section
variable {prog:Program} {w:World} {EO:Value→Shared→Prop} {F:Frm} {env:AEnv} {sl:SL} {ρ:List Addr} {s:Shared} {A:Around} {d:Nat}
noncomputable def hid (A:Around) (l:List Addr):List Addr:=(match A.frames with | some fs=>fs.filterMap (·.frame) | none=>[])++l
theorem FH {h:Heap} {as:List Addr} {fr:Addr→Prop} (hl:∀ b,fr b→∃ o,h.get? b=some o∧∀ vs,o.data≠.fields vs):∀ {l:List Env},(∀ e∈l,e.scope.kind≠.module∧∃ L,e.frame=some L∧fr L)→(∀ e∈l,∀ a,e.frame=some a→a∈as)→h.FunFrames (hideAll h as) l
 | [],_,_=>trivial
 | e :: l,h1,h2=>by
  (refine ob02 (h1 e (by simp)) fun k ζ1=>?_; refine ob12 ζ1 ?_; clear ζ1; intro L f1 f2)
  refine ob12 (hl L f2) fun o g1 g2=>?_
  exact ⟨k,⟨L,o,f1,hideAll_none _ (h2 e (by simp) L f1),g1,g2⟩,FH hl (fun e' he=>h1 e' (by simp [he])) fun e' he=>h2 e' (by simp [he])⟩
theorem RQ {outer:List Env} {e:Addr} {oe:Obj} {vs:Array Value} {a0:Value} {L:Addr} {fe:Env} {Q:Unit→Shared→Prop} {E:Value→Shared→Prop} {fr:Addr→Prop} (hA:A.frames=some (fe :: outer)) (hL:fe.frame=some L)
  (hfr:∀ x∈(fe :: outer),x.scope.kind≠.module∧∃ L,x.frame=some L∧fr L) (hl:∀ b,fr b→∃ o,s.heap.get? b=some o∧∀ vs,o.data≠.fields vs)
  (he:s.heap.get? e=some oe) (hd:oe.data=.fields vs) (h0:vs[0]?=some a0) (h1:vs[1]?=some .none)
  (h:∀ h',(∀ a o,s.heap.get? a=some o→a≠e→Kept fr h' a o)→(∃ oe' vs' T oT ts,h'.get? e=some oe'∧oe'.cls=oe.cls∧oe'.data=.fields vs'∧vs'[0]?=some a0∧vs'[1]?=some (.ref T)∧T≠e∧s.heap.get? T=none∧h'.get? T=some oT∧oT.data=.fields ts∧ts[3]?=some (rawInt L))→Q () { s with heap:=h' }) :
  wpAny (model prog w) A (noteFrame (.ref e) fe) Q E s:=by
 let as:List Addr:=(fe :: outer).filterMap (·.frame)++[e]
 have mem:∀ x∈(fe :: outer),∀ a,x.frame=some a→a∈as:=fun x hx a ha=>List.mem_append_left _ (List.mem_filterMap.mpr ⟨x,hx,ha⟩)
 have hfl:=FH (h:=s.heap) (as:=as) hl hfr mem
 have hen:(hideAll s.heap as).get? e=none:=hideAll_none _ (List.mem_append_right _ (by simp))
 have frOf:∀ b,b∈(fe :: outer).filterMap (·.frame)→fr b:=fun b hb=>by
  refine ob12 (List.mem_filterMap.mp hb) fun x hx hxb=>?_
  (refine ob02 (hfr x hx) fun _ ζ1=>?_; refine ob12 ζ1 ?_; clear ζ1; intro L' f1 f2)
  rw [hxb] at f1
  injection f1 with f1
  subst f1; exact f2
 unfold noteFrame
 simp only [hL]
 refine wpAny_bind (wpAny_field he hd h1 ?_)
 rw [if_neg (by decide)]
 refine wpAny_entryW (base:=hideAll s.heap as) hA hfl hL he (fun b o q=>of_hideAll _ q) hen hd (Array.getElem?_eq_some_iff.mp h1).1 h0 fun h' hN=>h h' (fun a o q ha=>?_) ?_
 ·(refine ob04 hN ?_; clear hN; intro k1 _ _ k4)
  by_cases hm:a∈(fe :: outer).filterMap (·.frame)
  ·have hfa:=frOf a hm
   refine ob12 (hl a hfa) fun o' q' nf=>?_
   rw [q] at q'
   injection q' with q'
   subst q'
   refine ob11 (k4 a o q nf) fun t e'=>?_
   exact ⟨t,e',.inl hfa⟩
  ·exact .of (k1 a o (hideAll_get _ q fun z=>(List.mem_append.mp z).elim hm fun z=>ha (by simpa using z)))
 ·(refine ob04 hN ?_; clear hN; intro k1 k2 ζ1 k4; refine ob57 ζ1 ?_; clear ζ1; intro oe' vs' T oT ts t1 ζ2 t4 t5 t6 t7 ζ3; refine ob02 ζ2 ?_; clear ζ2; intro t2 t3; refine ob03 ζ3 ?_; clear ζ3; intro t8 t9 t10)
  refine ⟨oe',vs',T,oT,ts,t1,t2,t4,t3,t5,t7,?_,t8,t9,t10⟩
  cases q:s.heap.get? T with
  | none=>rfl
  | some o=>
   by_cases hm:T∈(fe :: outer).filterMap (·.frame)
   ·(refine ob02 (k2.mem hm) fun _ ζ1=>?_; refine ob12 ζ1 ?_; clear ζ1; intro o' q' nf)
    rw [t8] at q'
    injection q' with q'
    subst q'
    exact absurd t9 (nf ts)
   ·rw [hideAll_get _ q fun z=>(List.mem_append.mp z).elim hm fun z=>t7 (by simpa using z)] at t6
    exact nomatch t6
theorem PY {fe:Env} {a T L:Addr} {oe oT:Obj} {vs ts:Array Value} {v3:Value} {E:Value→Shared→Prop} (hL:fe.frame=some L) (he:s.heap.get? a=some oe) (hd:oe.data=.fields vs) (h1:vs[1]?=some (.ref T)) (hT:s.heap.get? T=some oT) (hdT:oT.data=.fields ts) (h3:ts[3]?=some v3)
  (h:∀ h' oT',(∀ b o,b≠T→s.heap.get? b=some o→h'.get? b=some o)→h'.get? T=some oT'→oT'.data=.fields (ts.setIfInBounds 3 (rawInt L))→E (.ref a) { s with heap:=h' }):cameBackBy (model prog w) A fe E (.ref a) s:=by
 unfold cameBackBy
 refine wpAny_bind (wpAny_field he hd h1 ?_)
 rw [if_neg (show ¬ ((Value.ref T==Value.none)=true) from by simp)]
 unfold setFlight
 rw [hL]
 refine wpAny_bind (wpAny_field he hd h1 ?_)
 rw [if_pos (show (Value.ref T != Value.none)=true from by simp)]
 refine wpAny_setField hT hdT (Array.getElem?_eq_some_iff.mp h3).1 ?_
 exact h _ _ (fun b o hb q=>(Heap.get?_update_other _ _ (Ne.symm hb)).trans q) (Heap.get?_update_self _ hT (Obj.isFreed_of_fields (Obj.data_mapFields hdT _))) (Obj.data_mapFields hdT _)
theorem S1 {C:Addr} {outer:List Env} {E:Value→Shared→Prop} (hF:FrmOK F A) (hA:A.frames=some (F.env :: outer)) (hL:F.env.frame=some F.env.locals) {s₀:Shared} {e:Value} (p:Past F sl ρ s₀ s) (fresh:∀ a,FO e s.heap a→s₀.heap.get? a=none) (he:EOA F.env.locals F.fr C e s)
  (hE:∀ s',Past F sl ρ s₀ s'→(∀ a,FO e s'.heap a→s₀.heap.get? a=none)→EOA F.env.locals F.fr C e s'→E e s') :
  notedBy (model prog w) A F.env (fun e s'=>cameBackBy (model prog w) A F.env E e s') e s:=by
 (refine ob47 he ?_; clear he; intro a oe vs t ζ1 e1 ec ed h0 htb hl; subst ζ1)
 have ha0:s₀.heap.get? a=none:=fresh a (.inl rfl)
 have hfr:∀ x∈(F.env :: outer),x.scope.kind≠.module∧∃ L,x.frame=some L∧(F.fr L∨L=F.env.locals):=by
  refine ob12 hF.frames fun l q1 q2=>?_
  rw [hA] at q1
  injection q1 with q1
  subst q1; exact q2
 -- what follows once the frame stands in the traceback
 have back:∀ (s₁:Shared) oe₁ vs₁ T oT ts,(∀ b o,s.heap.get? b=some o→b≠a→Kept (fun L=>F.fr L∨L=F.env.locals) s₁.heap b o)→s₁.gens=s.gens→s₁.drawn=s.drawn→s₁.os=s.os→s₁.heap.get? a=some oe₁→oe₁.cls=.ref C→oe₁.data=.fields vs₁→vs₁[0]?=some (.ref t)→vs₁[1]?=some (.ref T)→T≠a→s₀.heap.get? T=none→s₁.heap.get? T=some oT→oT.data=.fields ts→ts[3]?=some (rawInt F.env.locals) →
   cameBackBy (model prog w) A F.env E (.ref a) s₁:=by
  intro s₁ oe₁ vs₁ T oT ts kp hg hdr hos k1 k2 k3 k4 k5 kT kT0 k6 k7 k8
  refine PY hL k1 k3 k5 k6 k7 k8 fun h' oT' kp' g1 g2=>?_
  have hsz:3<ts.size:=(Array.getElem?_eq_some_iff.mp k8).1
  have ea:h'.get? a=some oe₁:=kp' a oe₁ (Ne.symm kT) k1
  refine hE _ ⟨fun b o q hm=>?_,hg.trans p.gens,hdr.trans p.drawn,hos.trans p.os,fun b o q=>?_⟩ (fun x hx=>?_) ⟨a,oe₁,vs₁,t,rfl,ea,k2,k3,k4,.inr ⟨T,oT',_,k5,kT,g1,g2,by simp [hsz]⟩,fun b hb=>?_⟩
  ·have hba:b≠a:=fun z=>by rw [z,ha0] at q; cases q
   have hbT:b≠T:=fun z=>by rw [z,kT0] at q; cases q
   refine (p.keep b o q hm).trans fun o' q'=>?_
   refine ob12 (kp b o' q' hba) fun u q1 q2=>?_
   exact ⟨u,kp' b _ hbT q1,q2.imp (fun z=>z.resolve_right fun z=>hm (.inl z)) id⟩
  ·have hba:b≠a:=fun z=>by rw [z,ha0] at q; cases q
   have hbT:b≠T:=fun z=>by rw [z,kT0] at q; cases q
   refine ob11 (p.live b o q) fun o' q'=>?_
   refine ob12 ((kp b o' q' hba).some) fun o'' q'' _=>?_
   exact ⟨o'',kp' b o'' hbT q''⟩
  ·rcases hx with hx | ⟨y,oy,ws,hx,q1,q2,q3⟩
   ·injection hx with hx; subst hx; exact ha0
   ·injection hx with hx; subst hx
    have q1:h'.get? a=some oy:=q1
    rw [ea] at q1
    injection q1 with q1; subst q1
    rw [k3] at q2
    injection q2 with q2; subst q2
    rw [k5] at q3
    injection q3 with q3
    injection q3 with q3
    subst q3; exact kT0
  ·refine ob12 (hl b hb) fun o q1 q2=>?_
   have hba:b≠a:=fun z=>by
    rw [z,e1] at q1
    injection q1 with q1
    subst q1; exact q2 vs ed
   refine ob12 ((kp b o q1 hba).some) fun o' q' q''=>?_
   have hbT:b≠T:=fun z=>by
    rw [z,k6] at q'
    injection q' with q'
    subst q'
    rw [k7] at q''
    exact q2 _ q''.symm
   exact ⟨o',kp' b o' hbT q',fun vs=>q'' ▸ q2 vs⟩
 unfold notedBy
 rcases htb with h1 | ⟨T,oT,ts,h1,hne,hT,hdT,h3⟩
 ·refine RQ hA hL hfr hl e1 ed h0 h1 fun h' kp ζ1=>ob57 ζ1 fun oe' vs' T oT ts k1 k2 k3 k4 k5 k6 ζ2=>ob04 ζ2 fun k7 k8 k9 k10=>?_
  refine back { s with heap:=h' } oe' vs' T oT ts kp rfl rfl rfl k1 (k2.trans ec) k3 k4 k5 k6 ?_ k8 k9 k10
  cases q:s₀.heap.get? T with
  | none=>rfl
  | some o=>
   refine ob11 (p.live T o q) fun o' q'=>?_
   rw [k7] at q'; exact nomatch q'
 ·refine wpAny_noteFrame_inFlight hL e1 ed h1 hT hdT h3 ?_
  exact back s oe vs T oT ts (fun b o q _=>.of q) rfl rfl rfl e1 ec ed h0 h1 hne (fresh T (.inr ⟨a,oe,vs,rfl,e1,ed,h1⟩)) hT hdT h3
end
end Mine
end
section
open PySem.SeqAt
namespace Mine
section
variable {prog:Program} {w:World} {EO:Value→Shared→Prop} {F:Frm} {env:AEnv} {sl:SL} {ρ:List Addr} {s:Shared} {A:Around} {d:Nat}
structure Flown (s s':Shared) (fr:Addr→Prop) (C:Addr) (e:Value):Prop where
 keep:∀ b o,s.heap.get? b=some o→Kept fr s'.heap b o
 gens:s'.gens=s.gens
 drawn:s'.drawn=s.drawn
 os:s'.os=s.os
 exc:∃ a oe vs t T oT ts,e=.ref a∧s'.heap.get? a=some oe∧oe.cls=.ref C∧oe.data=.fields vs∧vs[0]?=some (.ref t)∧vs[1]?=some (.ref T)∧T≠a∧s'.heap.get? T=some oT∧oT.data=.fields ts∧ts[3]?=some .none∧s.heap.get? a=none∧s.heap.get? T=none
theorem JG {a T:Addr} {oe oT:Obj} {vs ts:Array Value} {v3:Value} {E:Value→Shared→Prop} {Q:Unit→Shared→Prop} (he:s.heap.get? a=some oe) (hd:oe.data=.fields vs) (h1:vs[1]?=some (.ref T)) (hT:s.heap.get? T=some oT) (hdT:oT.data=.fields ts) (h3:ts[3]?=some v3)
  (h:∀ h' oT',(∀ b o,b≠T→s.heap.get? b=some o→h'.get? b=some o)→h'.get? T=some oT'→oT'.data=.fields (ts.setIfInBounds 3 .none)→Q () { s with heap:=h' }):wpAny (model prog w) A (setFlight (.ref a) none) Q E s:=by
 unfold setFlight
 refine wpAny_bind (wpAny_field he hd h1 ?_)
 rw [if_pos (show (Value.ref T != Value.none)=true from by simp)]
 refine wpAny_setField hT hdT (Array.getElem?_eq_some_iff.mp h3).1 ?_
 exact h _ _ (fun b o hb q=>(Heap.get?_update_other _ _ (Ne.symm hb)).trans q) (Heap.get?_update_self _ hT (Obj.isFreed_of_fields (Obj.data_mapFields hdT _))) (Obj.data_mapFields hdT _)
theorem aaR {C:Addr} {outer:List Env} {Q:Unit→Shared→Prop} {E:Value→Shared→Prop} (hF:FrmOK F A) (hA:A.frames=some (F.env :: outer)) (hL:F.env.frame=some F.env.locals) {s₀:Shared} {e:Value} (keep:∀ b o,s₀.heap.get? b=some o→Kept F.fr s.heap b o) (hg:s.gens=s₀.gens) (hdr:s.drawn=s₀.drawn) (ho:s.os=s₀.os) (fresh:∀ a,FO e s.heap a→s₀.heap.get? a=none) (he:EOA F.env.locals F.fr C e s) (hL0:s₀.heap.get? F.env.locals=none)
  (hQ:∀ s',Flown s₀ s' F.fr C e→Q () s'):wpAny (model prog w) A (leaving F.env e) Q E s:=by
 (refine ob47 he ?_; clear he; intro a oe vs t ζ1 e1 ec ed h0 htb hl; subst ζ1)
 have ha0:s₀.heap.get? a=none:=fresh a (.inl rfl)
 have hfr:∀ x∈(F.env :: outer),x.scope.kind≠.module∧∃ L,x.frame=some L∧(F.fr L∨L=F.env.locals):=by
  refine ob12 hF.frames fun l q1 q2=>?_
  rw [hA] at q1
  injection q1 with q1
  subst q1; exact q2
 have back:∀ (s₁:Shared) oe₁ vs₁ T oT ts,(∀ b o,s.heap.get? b=some o→b≠a→Kept (fun L=>F.fr L∨L=F.env.locals) s₁.heap b o)→s₁.gens=s.gens→s₁.drawn=s.drawn→s₁.os=s.os→s₁.heap.get? a=some oe₁→oe₁.cls=.ref C→oe₁.data=.fields vs₁→vs₁[0]?=some (.ref t)→vs₁[1]?=some (.ref T)→T≠a→s₀.heap.get? T=none→s₁.heap.get? T=some oT→oT.data=.fields ts→ts[3]?=some (rawInt F.env.locals) →
   wpAny (model prog w) A (setFlight (.ref a) none) Q E s₁:=by
  intro s₁ oe₁ vs₁ T oT ts kp hg₁ hdr₁ hos₁ k1 k2 k3 k4 k5 kT kT0 k6 k7 k8
  refine JG k1 k3 k5 k6 k7 k8 fun h' oT' kp' g1 g2=>?_
  have hsz:3<ts.size:=(Array.getElem?_eq_some_iff.mp k8).1
  refine hQ _ ⟨fun b o q=>?_,hg₁.trans hg,hdr₁.trans hdr,hos₁.trans ho,a,oe₁,vs₁,t,T,oT',_,rfl,kp' a oe₁ (Ne.symm kT) k1,k2,k3,k4,k5,kT,g1,g2,by simp [hsz],ha0,kT0⟩
  have hba:b≠a:=fun z=>by rw [z,ha0] at q; cases q
  have hbT:b≠T:=fun z=>by rw [z,kT0] at q; cases q
  have hbL:b≠F.env.locals:=fun z=>by rw [z,hL0] at q; cases q
  refine (keep b o q).trans fun o' q'=>?_
  refine ob12 (kp b o' q' hba) fun u q1 q2=>?_
  exact ⟨u,kp' b _ hbT q1,q2.imp (fun z=>z.resolve_right hbL) id⟩
 unfold leaving
 rcases htb with h1 | ⟨T,oT,ts,h1,hne,hT,hdT,h3⟩
 ·refine wpAny_bind (RQ hA hL hfr hl e1 ed h0 h1 fun h' kp ζ1=>ob57 ζ1 fun oe' vs' T oT ts k1 k2 k3 k4 k5 k6 ζ2=>ob04 ζ2 fun k7 k8 k9 k10=>?_)
  refine back { s with heap:=h' } oe' vs' T oT ts kp rfl rfl rfl k1 (k2.trans ec) k3 k4 k5 k6 ?_ k8 k9 k10
  cases q:s₀.heap.get? T with
  | none=>rfl
  | some o=>
   refine ob12 ((keep T o q).some) fun o' q' _=>?_
   rw [k7] at q'; exact nomatch q'
 ·refine wpAny_bind (wpAny_noteFrame_inFlight hL e1 ed h1 hT hdT h3 ?_)
  exact back s oe vs T oT ts (fun b o q _=>.of q) rfl rfl rfl e1 ec ed h0 h1 hne (fresh T (.inr ⟨a,oe,vs,rfl,e1,ed,h1⟩)) hT hdT h3
def RaiseFn (prog:Program) (w:World) (G:Heap) (C a:Addr) (fn:Fn):Prop:=
 ∀ (X fr:Addr→Prop) (s:Shared) (A:Around) (vs:List Value) (avs:List AV) (P:AV→Prop) (Xp:Prop) (Q E:Value→Shared→Prop),
  (∀ b o,G.get? b=some o→s.heap.get? b=some o)→(∀ b,X b→G.get? b=none∧∃ o,s.heap.get? b=some o)→(∀ b,fr b→X b)→(∀ b,fr b→∃ o,s.heap.get? b=some o∧∀ vs,o.data≠.fields vs)→HD fr A→Room A (fn.height+1)→HasL prog w (VX X s.heap) [] avs vs →
  (fn.spec avs).Holds P Xp→(∀ v s' av,GrowF fr s s'→Has prog w (VX X s'.heap) [] av v→P av→Q v s')→(Xp→∀ e s',Flown s s' fr C e→E e s')→wpAny (model prog w) A (call (.ref a) vs) Q E s
theorem afV {C:Ctx} {G:Heap} {a Ca N fI:Addr} {name:Str} {params:Arguments} {body:List Stmt} {sc:Scope} {xs:List Str} (D:DefAt G a name params body sc xs) (hG:GOK prog w C G) (hd1:1≤d) (hX:AFat G Ca N fI) (hm:∀ mg,G.Ns mainGlobals mg→mg "AssemblyFault" = some (.ref Ca)) (hn:sc.names.lookup ("AssemblyFault" : Str)=some .globalImplicit) (n:Nat) :
  RaiseFn prog w G Ca a ⟨d,WL C d n sc body xs⟩:=by
 intro X fr s A vs avs P Xp Q E hGs hXX hfrX hfrs hfr r hv h hQ hE
 refine ob02 (AA h) fun hz h=>?_
 have hz:avs.length=xs.length:=Nat.eq_of_beq_eq_true hz
 refine ob43 D.get fun o pm cd doc g1 g2 g3=>?_
 have hlen:=hv.length
 refine wpAny_call (call_plain (binds:=xs.zip vs) (by have:=r.depth; omega) (hGs a o g1) g2 (D.lim.keeps hGs) (g3.keeps hGs) (D.bind pm cd doc vs (hlen.trans hz)) (fun x hx=>D.locs (List.of_mem_zip hx).1) (fun h₁ hF=>?_) D.co D.gen D.kind (fun x hx=>(D.noCell x hx).1))
 have I:=OK (prog:=prog) (w:=w) D (cd:=cd) hfrX (t:=s.toks+(xs.zip vs).length) hGs hXX hfrs hv hF
 have nL:∀ b o,s.heap.get? b=some o→b≠s.heap.objs.size:=fun b o e q=>by rw [q,AJ] at e; exact nomatch e
 have frm:=JF (A:=A) (a:=a) (L:=s.heap.objs.size) (cd:=cd) D hfrX hfr
 have st:=MO (a:=a) (L:=s.heap.objs.size) (cd:=cd) D hfrX
 refine ob12 (id hfr) fun outer hA _=>?_
 have hA':(A.deeper (envOf name sc s.heap.objs.size a cd)).frames=some (envOf name sc s.heap.objs.size a cd :: outer):=by
  show A.frames.map _=_
  rw [hA]; rfl
 have ex:ExcOK prog w (EOA s.heap.objs.size fr Ca) (Frm.call name sc s.heap.objs.size a cd X fr hfrX G) C d (A.deeper (envOf name sc s.heap.objs.size a cd)):=by
  refine ⟨fun _ n F' hF' env sl ρ s' I' args p cpos pos Xq Q' E' hns h2 hh hE'=>?_,fun F' hF' sl ρ s₀ s' p e fresh he E' hE'=>?_⟩
  ·(refine ob03 hF' ?_; clear hF'; intro q1 q2 q3)
   have frm':FrmOK F' (A.deeper (envOf name sc s.heap.objs.size a cd)):=⟨by rw [q1]; exact frm.kind,by rw [q1]; exact frm.glob,by rw [q1]; exact frm.blt,by
    rw [q1,q3]; exact frm.frames⟩
   have st':StOK F':=⟨by rw [q1]; exact st.kind,by rw [q1]; exact st.apart,by rw [q1]; exact st.cells⟩
   have q2':F'.base=G:=q2
   refine aaQ (EO:=EOA s.heap.objs.size fr Ca) (C:=C) (d:=d) ⟨frm',by rw [q2']; exact hG⟩ (r.deeper _) hd1 (by rw [q2']; exact hX) (by rw [q2']; exact hm) (by rw [q1]; exact hn) (F5 hG (r.deeper _) n F' q2' frm' st' env).1 (by rw [q1,q3]; rfl) I' hns h2 hh hE'
  ·(refine ob03 hF' ?_; clear hF'; intro q1 q2 q3)
   have frm':FrmOK F' (A.deeper (envOf name sc s.heap.objs.size a cd)):=⟨by rw [q1]; exact frm.kind,by rw [q1]; exact frm.glob,by rw [q1]; exact frm.blt,by
    rw [q1,q3]; exact frm.frames⟩
   have e1:EOA F'.env.locals F'.fr Ca=EOA s.heap.objs.size fr Ca:=by rw [q1,q3]; rfl
   exact S1 (C:=Ca) (outer:=outer) frm' (by rw [q1]; exact hA') (by rw [q1]; rfl) p fresh (by rw [e1]; exact he) (by rw [e1]; exact hE')
 refine F8 (EO:=EOA s.heap.objs.size fr Ca) hG (r.deeper _) n _ rfl frm st ex body _ [] [] _ I _ Xp _ _ (R.holds_bind h) (fun f s' hq=>?_) (fun hx e s' p fresh he=>?_)
 ·(refine ob44 hq ?_; clear hq; intro fl env' sl' ρ' I' ev hf hp)
  have grow:GrowF fr s s':=⟨fun b ob e=>ev.keep b ob (hF.keep b ob e) fun q=>by
   rcases q with q | ⟨x,q⟩ | ⟨n,c,q,_⟩
   ·exact nL b ob e q
   ·cases q
   ·simp at q,ev.gens,ev.drawn,ev.os⟩
  cases fl with
  | nxt=>
   have hf:f=.next:=hf
   subst hf
   exact hQ .none s' .none grow rfl hp
  | ret av=>
   (refine ob12 hf ?_; clear hf; intro v hf hv')
   subst hf
   refine ob25 (I8 I' hv' (R.holds_bind hp)) fun o' av' I'' hh ev' hpure hp=>?_
   exact hQ v s' av' grow (FU av' v hpure (Has.mono prog w (fun b ob q=>⟨q.1,fun z=>q.2.1 (.inl z),q.2.2⟩) (fun _ _ e=>e) _ _ hh)) hp
 ·refine aaR (C:=Ca) (outer:=outer) (s₀:=s) (F:=Frm.call name sc s.heap.objs.size a cd X fr hfrX G) frm hA' rfl (fun b o q=>p.keep b o (hF.keep b o q) fun z=>?_) p.gens p.drawn p.os (fun x hx=>?_) he (AJ _) fun s'' fl=>hE hx e s'' fl
  ·rcases z with z | ⟨x,z⟩ | ⟨n,c,z,_⟩
   ·exact nL b o q z
   ·cases z
   ·simp at z
  ·cases q:s.heap.get? x with
   | none=>rfl
   | some o=>
    have:=fresh x hx
    rw [show ({ s with heap:=h₁,toks:=s.toks+(xs.zip vs).length }:Shared).heap.get? x=h₁.get? x from rfl,hF.keep x o q] at this
    exact nomatch this
end
end Mine
end
section
open PySem.SeqAt
namespace Mine
section
variable {prog:Program} {w:World} {EO:Value→Shared→Prop} {F:Frm} {env:AEnv} {sl:SL} {ρ:List Addr} {s:Shared} {A:Around} {d:Nat}
noncomputable def JH:R AV→R AV
 | .ret _=>.ret (.bool false)
 | .exc=>.ret (.bool true)
 | .ite b x y=>.ite b (JH x) (JH y)
 | .need p x=>.need p (JH x)
 | .fail=>.fail
theorem D3 {P:AV→Prop}:∀ {x:R AV},(JH x).Holds P False→x.Holds (fun _=>P (.bool false)) (P (.bool true))
 | .ret _,h=>h
 | .exc,h=>h
 | .ite _ _ _,⟨h1,h2⟩=>⟨fun e=>D3 (h1 e),fun e=>D3 (h2 e)⟩
 | .need _ _,⟨h1,h2⟩=>⟨h1,D3 h2⟩
 | .fail,h=>h
theorem aaS {outer:List Env} {e T:Addr} {oe oT:Obj} {vs ts:Array Value} {a0:Value} {L:Addr} {fe:Env} {Q:Unit→Shared→Prop} {E:Value→Shared→Prop} {fr:Addr→Prop} (hA:A.frames=some (fe :: outer)) (hL:fe.frame=some L)
  (hfr:∀ x∈(fe :: outer),x.scope.kind≠.module∧∃ L,x.frame=some L∧fr L) (hl:∀ b,fr b→∃ o,s.heap.get? b=some o∧∀ vs,o.data≠.fields vs)
  (he:s.heap.get? e=some oe) (hd:oe.data=.fields vs) (h0:vs[0]?=some a0) (h1:vs[1]?=some (.ref T)) (hne:T≠e) (hT:s.heap.get? T=some oT) (hdT:oT.data=.fields ts) (h3:ts[3]?=some .none)
  (h:∀ h',(∀ a o,s.heap.get? a=some o→a≠e→a≠T→Kept fr h' a o)→(∃ oe' vs' T oT ts,h'.get? e=some oe'∧oe'.cls=oe.cls∧oe'.data=.fields vs'∧vs'[0]?=some a0∧vs'[1]?=some (.ref T)∧T≠e∧(∀ o,s.heap.get? T=some o→∃ us,o.data=.fields us∧(T=e∨∃ T',vs[1]?=some (.ref T')∧T=T'))∧h'.get? T=some oT∧oT.data=.fields ts∧ts[3]?=some (rawInt L))→Q () { s with heap:=h' }) :
  wpAny (model prog w) A (noteFrame (.ref e) fe) Q E s:=by
 let as:List Addr:=(fe :: outer).filterMap (·.frame)++[e,T]
 have mem:∀ x∈(fe :: outer),∀ a,x.frame=some a→a∈as:=fun x hx a ha=>List.mem_append_left _ (List.mem_filterMap.mpr ⟨x,hx,ha⟩)
 have hfl:=FH (h:=s.heap) (as:=as) hl hfr mem
 have hen:(hideAll s.heap as).get? e=none:=hideAll_none _ (List.mem_append_right _ (by simp))
 have hTn:(hideAll s.heap as).get? T=none:=hideAll_none _ (List.mem_append_right _ (by simp))
 have frOf:∀ b,b∈(fe :: outer).filterMap (·.frame)→fr b:=fun b hb=>by
  refine ob12 (List.mem_filterMap.mp hb) fun x hx hxb=>?_
  (refine ob02 (hfr x hx) fun _ ζ1=>?_; refine ob12 ζ1 ?_; clear ζ1; intro L' f1 f2)
  rw [hxb] at f1
  injection f1 with f1
  subst f1; exact f2
 refine wpAny_noteFrame_onW (base:=hideAll s.heap as) (cls:=oe.cls) (a0:=a0) hA hfl hL ⟨oe,vs,T,oT,ts,he,⟨rfl,h0⟩,hd,h1,hTn,hne,hT,hdT,h3⟩ (fun b o q=>of_hideAll _ q) hen fun h' hN=>h h' (fun a o q ha haT=>?_) ?_
 ·(refine ob04 hN ?_; clear hN; intro k1 _ _ k4)
  by_cases hm:a∈(fe :: outer).filterMap (·.frame)
  ·have hfa:=frOf a hm
   refine ob12 (hl a hfa) fun o' q' nf=>?_
   rw [q] at q'
   injection q' with q'
   subst q'
   refine ob11 (k4 a o q nf) fun t e'=>?_
   exact ⟨t,e',.inl hfa⟩
  ·exact .of (k1 a o (hideAll_get _ q fun z=>(List.mem_append.mp z).elim hm fun z=>by
    rcases List.mem_cons.mp z with z | z
    ·exact ha z
    ·exact haT (by simpa using z)))
 ·(refine ob04 hN ?_; clear hN; intro k1 k2 ζ1 k4; refine ob57 ζ1 ?_; clear ζ1; intro oe' vs' T' oT' ts' t1 ζ2 t4 t5 t6 t7 ζ3; refine ob02 ζ2 ?_; clear ζ2; intro t2 t3; refine ob03 ζ3 ?_; clear ζ3; intro t8 t9 t10)
  refine ⟨oe',vs',T',oT',ts',t1,t2,t4,t3,t5,t7,fun o q=>?_,t8,t9,t10⟩
  by_cases hm:T'∈(fe :: outer).filterMap (·.frame)
  ·(refine ob02 (k2.mem hm) fun _ ζ1=>?_; refine ob12 ζ1 ?_; clear ζ1; intro o' q' nf)
   rw [t8] at q'
   injection q' with q'
   subst q'
   exact absurd t9 (nf ts')
  ·by_cases hTT:T'=T
   ·subst hTT
    rw [hT] at q
    injection q with q
    subst q
    exact ⟨ts,hdT,.inr ⟨_,h1,rfl⟩⟩
   ·rw [hideAll_get _ q fun z=>(List.mem_append.mp z).elim hm fun z=>by
     rcases List.mem_cons.mp z with z | z
     ·exact t7 z
     ·exact hTT (by simpa using z)] at t6
    exact nomatch t6
noncomputable def WQ (k1 k2:Nat) (p1 p2 p3 p4 p5 p6 p7 p8 p9 p10 p11 p12:Pos):List Stmt:=
 [.Try [.Expr (.Call (.Name "encode" p1) [.Name "name" p2,.Name "fields" p3] [] p4) p5] [.ExceptHandler (some (.Name "AssemblyFault" p6)) none [.Return (some (.Constant (.bool true) k1 p7)) p8] p9] [] [] p10,.Return (some (.Constant (.bool false) k2 p11)) p12]
theorem S2 {C:Ctx} {G:Heap} {a Ca N fI ae:Addr} {params:Arguments} {sc:Scope} {fe:Fn} {k1 k2:Nat} {p1 p2 p3 p4 p5 p6 p7 p8 p9 p10 p11 p12:Pos} (D:DefAt G a "_law_is_refused" params (WQ k1 k2 p1 p2 p3 p4 p5 p6 p7 p8 p9 p10 p11 p12) sc ["name","fields"])
  (hX:AFat G Ca N fI) (hm:∃ mg,G.Ns mainGlobals mg∧mg "AssemblyFault" = some (.ref Ca)∧mg "encode" = some (.ref ae)) (hae:∃ o fd,G.get? ae=some o∧o.data=.func fd) (hfe:RaiseFn prog w G Ca ae fe) (hh:fe.height+1≤d)
  (hn1:sc.names.lookup ("AssemblyFault" : Str)=some .globalImplicit) (hn2:sc.names.lookup ("encode" : Str)=some .globalImplicit) :
  PureFn prog w G a ⟨d,fun args=>AO (Nat.beq args.length 2) (JH (fe.spec args))⟩:=by
 intro X fr s A vs avs P Q E hGs hXX hfrX hfrs hfr r hv h hQ
 refine ob02 (AA h) fun hz h=>?_
 have hz:avs.length=2:=Nat.eq_of_beq_eq_true hz
 have h:=D3 h
 refine ob43 D.get fun o pm cd doc g1 g2 g3=>?_
 (refine ob13 hm ?_; clear hm; intro mg m1 m2 m3)
 (refine ob22 hae ?_; clear hae; intro oe fde q1 q2)
 have hlen:=hv.length
 rw [hz] at hlen
 (refine ob21 (len2 (P:=fun vs=>∃ v1 v2,vs=[v1,v2]) (fun a b=>⟨a,b,rfl⟩) vs hlen) ?_; clear hlen; intro v1 v2 evs; subst evs)
 refine wpAny_call (call_plain (binds:=(["name","fields"]:List Str).zip [v1,v2]) (by have:=r.depth; omega) (hGs a o g1) g2 (D.lim.keeps hGs) (g3.keeps hGs) (D.bind pm cd doc _ rfl) (fun x hx=>D.locs (List.of_mem_zip hx).1) (fun h₁ hF=>?_) D.co D.gen D.kind (fun x hx=>(D.noCell x hx).1))
 let L:=s.heap.objs.size
 let env:=envOf "_law_is_refused" sc L a cd
 let A':=A.deeper env
 have nL:∀ b o,s.heap.get? b=some o→b≠L:=fun b o e q=>by rw [q,AJ] at e; exact nomatch e
 have k1':env.kindOf ("name" : Str)=some .local:=D.locs (by simp)
 have k2':env.kindOf ("fields" : Str)=some .local:=D.locs (by simp)
 let m:Str→Option Value:=fun x=>((["name","fields"]:List Str).zip [v1,v2]).reverse.lookup x
 have loc:∀ {M:Model} {A:Around} {E:Value→Shared→Prop} {x:Str} {p:Pos} {v:Value} {s:Shared} {Q:Value→Shared→Prop},env.kindOf x=some .local→s.heap.Ns L m→m x=some v→Q v s→(x==("__debug__" : Str))=false→wpAny M A (eval (.Name x p) env) Q E s:=
  fun k n v q d=>wpAny_Name (wpAny_loadName_local D.kind k n v q) d
 let s₁:Shared:={ s with heap:=h₁,toks:=s.toks+((["name","fields"]:List Str).zip [v1,v2]).length }
 have base₁:∀ b o,G.get? b=some o→s₁.heap.get? b=some o:=fun b o e=>hF.keep b o (hGs b o e)
 have gL:G.get? L=none:=by
  cases e:G.get? L with
  | none=>rfl
  | some o=>have:=hGs _ o e; rw [AJ] at this; exact nomatch this
 let X':Addr→Prop:=fun b=>X b∨b=L
 let fr':Addr→Prop:=fun b=>fr b∨b=L
 have nsL:∃ o,s₁.heap.get? L=some o∧∀ vs,o.data≠.fields vs:=by
  refine ob33 hF.ns fun o es ep e dd _=>?_
  exact ⟨o,e,fun vs q=>by rw [dd] at q; exact nomatch q⟩
 have hX':∀ b,X' b→G.get? b=none∧∃ o,s₁.heap.get? b=some o:=fun b hb=>by
  rcases hb with hb | hb
  ·(refine ob02 (hXX b hb) fun z1 ζ1=>?_; refine ob11 ζ1 ?_; clear ζ1; intro o z2)
   exact ⟨z1,o,hF.keep b o z2⟩
  ·subst hb
   (refine ob12 nsL ?_; clear nsL; intro o e _)
   exact ⟨gL,o,e⟩
 have hfrs':∀ b,fr' b→∃ o,s₁.heap.get? b=some o∧∀ vs,o.data≠.fields vs:=fun b hb=>by
  rcases hb with hb | hb
  ·refine ob12 (hfrs b hb) fun o z1 z2=>?_
   exact ⟨o,hF.keep b o z1,z2⟩
  ·subst hb; exact nsL
 refine ob12 (id hfr) fun outer hA hAl=>?_
 have hA':A'.frames=some (env :: outer):=by
  show A.frames.map _=_
  rw [hA]; rfl
 have hfrl:∀ x∈(env :: outer),x.scope.kind≠.module∧∃ L,x.frame=some L∧fr' L:=fun x hx=>by
  rcases List.mem_cons.mp hx with q | q
  ·subst q
   exact ⟨by show sc.kind≠_; rw [D.kind]; decide,L,rfl,.inr rfl⟩
  ·(refine ob02 (hAl x q) fun k ζ1=>?_; refine ob12 ζ1 ?_; clear ζ1; intro L' f1 f2)
   exact ⟨k,L',f1,.inl f2⟩
 have hfr':HD fr' A':=⟨_,hA',hfrl⟩
 have hv':HasL prog w (VX X' s₁.heap) [] avs [v1,v2]:=HasL.mono prog w (fun b o z=>⟨hF.keep b o z.1,fun y=>y.elim z.2.1 (nL b o z.1),z.2.2⟩) (fun _ _ e=>e) _ _ hv
 have r':Room A' d:=r.deeper _
 -- what is kept from the start of the call
 have toFr:∀ (s₂:Shared),(∀ b o,s₁.heap.get? b=some o→Kept fr' s₂.heap b o)→∀ b o,s.heap.get? b=some o→Kept fr s₂.heap b o:=fun s₂ k b o e=>by
  refine ob12 (k b o (hF.keep b o e)) fun t z1 z2=>?_
  exact ⟨t,z1,z2.imp (fun z=>z.resolve_right (nL b o e)) id⟩
 have ret:∀ (s₂:Shared) (b:Bool),(∀ b o,s.heap.get? b=some o→Kept fr s₂.heap b o)→s₂.gens=s.gens→s₂.drawn=s.drawn→s₂.os=s.os→P (.bool b)→Q (.bool b) s₂:=fun s₂ b k e1 e2 e3 hp=>hQ (.bool b) s₂ (.bool b) ⟨k,e1,e2,e3⟩ rfl hp
 refine wpAny_execs_cons (wpAny_Try_except ?_)
 refine wpAny_execs_cons (wpAny_Expr_any ?_ (by unfold interactive; rw [show env.scope.kind=_ from D.kind]; rfl) rfl)
 refine Call_Name rfl (Name_function_global D.kind hn2 (loadGlobal_global (mg:=mg) (m1.keeps base₁) m3 ?_) (by decide))
 refine callWith_function (o:=oe) (fd:=fde) (CN rfl ?_)
 refine spliced_cons (loc k1' hF.ns rfl (spliced_cons (loc k2' hF.ns rfl (spliced_nil ⟨⟨base₁ _ _ q1,q2⟩,?_⟩) (by decide))) (by decide))
 refine hfe X' fr' s₁ A' [v1,v2] avs _ _ _ _ base₁ hX' (fun b hb=>hb.imp (hfrX b) id) hfrs' hfr' (r'.less hh) hv' h (fun v s₂ av g hav hp=>?_) (fun hp e s₂ fl=>?_)
 ·-- it did not raise
  refine wpAny_execs_nil (wpAny_execs_nil ?_)
  refine wpAny_execs_cons (wpAny_Return_some (wpAny_Constant_bool ?_))
  exact ret s₂ false (toFr s₂ g.keep) g.gens g.drawn g.os hp
 ·-- it raised
  have kp:=fl.keep
  have hg:=fl.gens
  have hdr:=fl.drawn
  have hos:=fl.os
  (refine ob51 fl.exc ?_; clear fl; intro x oe₂ vs₂ t T z; refine ob27 z ?_; clear z; intro oT ts ex x1 x2 x3 x4 x5 z; refine ob06 z ?_; clear z; intro x6 x7 x8 x9 x10 x11; subst ex)
  have hl₂:∀ b,fr' b→∃ o,s₂.heap.get? b=some o∧∀ vs,o.data≠.fields vs:=fun b hb=>by
   refine ob12 (hfrs' b hb) fun o z1 z2=>?_
   refine ob12 ((kp b o z1).some) fun o' z3 z4=>?_
   exact ⟨o',z3,fun vs=>z4 ▸ z2 vs⟩
  refine aaS hA' rfl hfrl hl₂ x1 x3 x4 x5 x6 x7 x8 x9 fun h₃ kp₃ ζ1=>ob57 ζ1 fun oe₃ vs₃ T₃ oT₃ ts₃ y1 y2 y3 y4 y5 y6 ζ2=>ob04 ζ2 fun y7 y8 y9 y10=>?_
  have T₃new:s₁.heap.get? T₃=none:=by
   cases e:s₁.heap.get? T₃ with
   | none=>rfl
   | some o=>
    refine ob12 ((kp T₃ o e).some) fun o' z1 _=>?_
    refine ob12 (y7 o' z1) fun us _ z2=>?_
    rcases z2 with z2 | ⟨T',z2,z3⟩
    ·exact absurd z2 y6
    ·rw [x5] at z2
     injection z2 with z2
     injection z2 with z2
     rw [z3,← z2,x11] at e; exact nomatch e
  have kp₁₃:∀ b o,s₁.heap.get? b=some o→Kept fr' h₃ b o:=fun b o e=>(kp b o e).trans fun o' e'=>kp₃ b o' e' (fun z=>by rw [z,x10] at e; cases e) (fun z=>by rw [z,x11] at e; cases e)
  refine JG (s:={ s₂ with heap:=h₃ }) y1 y3 y5 y8 y9 y10 fun h₄ oT₄ kp₄ z1 z2=>?_
  have hsz:3<ts₃.size:=(Array.getElem?_eq_some_iff.mp y10).1
  have e₄:h₄.get? x=some oe₃:=kp₄ x oe₃ (Ne.symm y6) y1
  have kp₁₄:∀ b o,s₁.heap.get? b=some o→Kept fr' h₄ b o:=fun b o e=>(kp₁₃ b o e).trans fun o' e'=>.of (kp₄ b o' (fun z=>by rw [z,T₃new] at e; cases e) e')
  have base₄:∀ b o,G.get? b=some o→h₄.get? b=some o:=fun b o e=>(kp₁₄ b o (base₁ b o e)).exact fun q=>by
   rw [(hX' b (q.imp (hfrX b) id)).1] at e; exact nomatch e
  have hC:=hX.cls
  refine wpAny_handleBy_cons (codeAny_handlers_test ?_) (by intro q; cases q)
  refine Name_function_global D.kind hn1 (loadGlobal_global (mg:=mg) (m1.keeps base₄) m2 ?_) (by decide)
  refine wpAny_excMatches_sub_self (h:=h₄) (base₄ _ _ hC) e₄ (y2.trans x2) PySem.F.excBase_Exception.hasBase ?_
  refine codeAny_handlers_suite ?_
  refine JG (s:={ s₂ with heap:=h₄ }) e₄ y3 y5 z1 z2 (v3:=.none) (by simp [hsz]) fun h₅ oT₅ kp₅ w1 w2=>?_
  refine wpAny_execs_cons (wpAny_Return_some (wpAny_Constant_bool ?_))
  exact ret { s₂ with heap:=h₅ } true (toFr { s₂ with heap:=h₅ } fun b o e=>(kp₁₄ b o e).trans fun o' e'=>.of (kp₅ b o' (fun z=>by rw [z,T₃new] at e; cases e) e')) hg hdr hos hp
end
end Mine
end
section
open PySem.SeqAt
namespace Mine
section
variable {prog:Program} {w:World} {h:Heap} {K:Frag}
noncomputable def ajK (v:AV):Option Bool:=match v with
 | .bool b=>some b
 | _=>none
noncomputable def dIO (v:AV):Option (List Int×List AV):=match v with
 | .dI ks l=>some (ks,l)
 | _=>none
theorem aaT {v:AV} {b:Bool} (h:ajK v=some b):v=.bool b:=by
 cases v<;>first | exact A0 h | exact congrArg AV.bool (Option.some.inj h)
theorem ajL {v:AV} {l:List Int×List AV} (h:dIO v=some l):v=.dI l.1 l.2:=by
 cases v<;>first | exact A0 h | (rw [← Option.some.inj h])
noncomputable def allL {α β:Type} (c:α→β→Bool):List α→List β→Bool
 | []=>fun m=>m.isEmpty
 | x :: l=>fun m=>GS (ZP m) fun p=>c x p.1&&allL c l p.2
noncomputable def eqV:Nat→AV→AV→Bool
 | 0=>fun _ _=>false
 | n+1=>fun x y=>match x with
  | .none=>GS (PF y) fun _=>true
  | .bool a=>GS (ajK y) fun b=>a==b
  | .num a=>GS (numO y) fun b=>decide (a=b)
  | .str a=>GS (strO y) fun b=>a==b
  | .tup l=>GS (tupV y) (allL (eqV n) l)
  | .lst l=>GS (lstV y) (allL (eqV n) l)
  | .dS ks l=>GS (dSO y) fun p=>decide (ks=p.1)&&allL (eqV n) l p.2
  | .dI ks l=>GS (dIO y) fun p=>decide (ks=p.1)&&allL (eqV n) l p.2
  | _=>false
theorem JI {c:AV→AV→Bool} (hc:∀ x y,c x y=true→x=y):∀ l m,allL c l m=true→l=m
 | [],_,h=>(List.isEmpty_iff.mp h).symm
 | x :: l,m,h=>B2 h fun p e h=>by rw [MI e,hc _ _ (Bool.and_eq_true_iff.mp h).1,JI hc l _ (Bool.and_eq_true_iff.mp h).2]
theorem LI:∀ n x y,eqV n x y=true→x=y
 | 0,_,_,h=>EM h
 | n+1,x,y,h=>by
  cases x<;>try exact EM h
  ·exact B2 h fun _ e _=>(FS e).symm
  ·exact B2 h fun b e q=>by rw [aaT e,eq_of_beq q]
  ·exact B2 h fun b e q=>by rw [I0 e,of_decide_eq_true q]
  ·exact B2 h fun b e q=>by rw [EN e,eq_of_beq q]
  ·exact B2 h fun b e q=>by rw [HY e,JI (LI n) _ _ q]
  ·exact B2 h fun b e q=>by rw [GW e,JI (LI n) _ _ q]
  ·exact B2 h fun b e q=>by rw [VN e,of_decide_eq_true (Bool.and_eq_true_iff.mp q).1,JI (LI n) _ _ (Bool.and_eq_true_iff.mp q).2]
  ·exact B2 h fun b e q=>by rw [ajL e,of_decide_eq_true (Bool.and_eq_true_iff.mp q).1,JI (LI n) _ _ (Bool.and_eq_true_iff.mp q).2]
noncomputable abbrev eqAV:AV→AV→Bool:=eqV 64
theorem WR {x y:AV} (h:eqAV x y=true):x=y:=LI 64 x y h
noncomputable def eqR (x:R AV) (v:AV):Bool:=match x with | .ret a=>eqAV a v | _=>false
theorem DI {x:R AV} {v:AV} (h:eqR x v=true):x=.ret v:=by
 cases x<;>first | exact EM h | exact congrArg R.ret (WR h)
noncomputable def flat (v:Value):AV:=match v with
 | .none=>.none
 | .bool b=>.bool b
 | .int i _=>.num i
 | .str s _=>.str s
 | _=>.loc 0
noncomputable def ajM (o:Obj):Option (String×List Value):=match o.cls with
 | .type c=>(match o.dict with
  | none=>(match o.data with
   | .seq xs _=>bif Nat.beq o.slots.size 0 then some (c,xs.toList) else none
   | _=>none)
  | some _=>none)
 | _=>none
theorem aaU {o:Obj} {p:String×List Value} (h:ajM o=some p):∃ k,o={ cls:=.type p.1,data:=.seq p.2.toArray k }:=by
 obtain ⟨cls,dict,data,slots⟩:=o
 cases cls<;>try exact A0 h
 cases dict<;>try exact A0 h
 cases data<;>try exact A0 h
 rename_i c xs k
 refine ob02 (RN (b:=Nat.beq slots.size 0) (x:=(c,xs.toList)) h) fun h1 h2=>⟨k,?_⟩
 have e3:slots=#[]:=Array.size_eq_zero_iff.mp (Nat.eq_of_beq_eq_true h1)
 rw [← h2,e3]
noncomputable def refO (v:Value):Option Addr:=match v with
 | .ref a=>some a
 | _=>none
theorem afW {v:Value} {a:Addr} (h:refO v=some a):v=.ref a:=by
 cases v<;>first | exact A0 h | exact congrArg Value.ref (Option.some.inj h)
noncomputable def seqC (K:Frag) (c:String) (v:Value) (k:List Value→Bool):Bool:=GS (refO v) fun a=>GS (K.lookup a) fun o=>GS (ajM o) fun p=>!(Nat.beq a sysModules)&&(p.1==c&&k p.2)
noncomputable def chk (K:Frag):Nat→AV→Value→Bool
 | 0=>fun _ _=>false
 | n+1=>fun t v=>match t with
  | .tup l=>seqC K "tuple" v (allL (chk K n) l)
  | .lst l=>seqC K "list" v (allL (chk K n) l)
  | .loc _=>false
  | _=>eqV 1 t (flat v)
noncomputable abbrev chkL (K:Frag) (n:Nat):List AV→List Value→Bool:=allL (chk K n)
theorem notSm {a:Addr} (h:(!(Nat.beq a sysModules))=true):(a==sysModules)=false:=by
 rw [Bool.not_eq_true'] at h
 exact beq_eq_false_iff_ne.mpr fun e=>by rw [e,Nat.beq_refl] at h; cases h
theorem WS {h':Heap} {C:Prop} {c:String} {v:Value} {k:List Value→Bool} (h:seqC K c v k=true) (X:K.In h') (G:∀ a l n,v=.ref a→h'.get? a=some { cls:=.type c,data:=.seq l.toArray n }→(a==sysModules)=false→k l=true→C):C:=
 B2 h fun a e1 h=>B2 h fun o e2 h=>B2 h fun p e3 h=>ob11 (aaU e3) fun n e4=>by
  simp only [Bool.and_eq_true,beq_iff_eq] at h
  refine G a p.2 n (afW e1) ?_ (notSm h.1) h.2.2
  rw [X a _ e2,e4,h.2.1]
theorem IS {c:AV→Value→Bool} (hc:∀ t v,c t v=true→Has prog w (VX (fun _=>False) h) [] t v):∀ (l:List AV) (vs:List Value),allL c l vs=true→HasL prog w (VX (fun _=>False) h) [] l vs
 | [],_,e=>List.isEmpty_iff.mp e
 | x :: l,m,e=>B2 e fun p q e=>⟨p.1,p.2,MI q,hc _ _ (Bool.and_eq_true_iff.mp e).1,IS hc l _ (Bool.and_eq_true_iff.mp e).2⟩
theorem aaV {t:AV} {v:Value} (e:t=flat v) (ne:∀ n,t≠.loc n):Has prog w (VX (fun _=>False) h) [] t v:=by
 cases v<;>first | exact absurd e (ne _) | (rw [e]; exact rfl) | (rw [e]; exact ⟨_,rfl⟩)
theorem MS (X:K.In h):∀ (n:Nat) (t:AV) (v:Value),chk K n t v=true→Has prog w (VX (fun _=>False) h) [] t v
 | 0,_,_,e=>EM e
 | n+1,t,v,e=>by
  cases t<;>try exact EM e
  all_goals try exact aaV (LI 1 _ _ e) nofun
  ·exact WS e X fun a l n e1 e2 e3 e4=>⟨a,l,n,e1,⟨e2,fun q=>q,e3⟩,IS (MS X _) _ _ e4⟩
  ·exact WS e X fun a l n e1 e2 e3 e4=>⟨a,l,n,e1,⟨e2,fun q=>q,e3⟩,IS (MS X _) _ _ e4⟩
theorem RT (X:K.In h) (n:Nat) (l:List AV) (vs:List Value) (e:chkL K n l vs=true):HasL prog w (VX (fun _=>False) h) [] l vs:=IS (MS X n) l vs e
noncomputable def ON:List Str→List DictEntry→Bool
 | [],es=>(match es with | []=>true | _=>false)
 | k :: ks,es=>(match es with
  | e :: r=>(match e.key with | .str t _=>k==t | _=>false)&&ON ks r
  | []=>false)
noncomputable def OO:List Int→List DictEntry→Bool
 | [],es=>(match es with | []=>true | _=>false)
 | k :: ks,es=>(match es with
  | e :: r=>(match e.key with | .int t _=>decide (k=t) | _=>false)&&OO ks r
  | []=>false)
noncomputable def DE {α:Type} (f:α→Int):List α→List DictEntry→Prop
 | [],_=>True
 | k :: ks,es=>(match es with | e :: r=>e.hash=f k∧DE f ks r | []=>False)
theorem OP:∀ {ks:List Str} {es:List DictEntry},ON ks es=true→DE (hashStr w) ks es→ks.length=es.length∧(∀ e∈es,∃ k,(PySem.strKind prog w).is k e.key=true∧e.hash=(PySem.strKind prog w).hash k)∧Pairs (PySem.strKind prog w) es (ks.zip (es.map (·.val)))
 | [],[],_,_=>⟨rfl,fun _ h=>(nomatch h),.nil⟩
 | [],_ :: _,h,_=>nomatch h
 | _ :: _,[],h,_=>nomatch h
 | k :: ks,e :: es,h,hh=>by
  simp only [ON,Bool.and_eq_true] at h
  (refine ob02 h ?_; clear h; intro h1 h2)
  (refine ob02 hh ?_; clear hh; intro g1 g2)
  refine ob03 (OP h2 g2) fun i1 i2 i3=>?_
  split at h1
  ·rename_i t tk hk
   have:=eq_of_beq h1
   subst this
   have his:(PySem.strKind prog w).is k e.key=true:=by rw [hk]; exact strKind_is prog w k tk
   refine ⟨by simp [i1],fun e' he=>?_,.cons his rfl i3⟩
   rcases List.mem_cons.mp he with q | q
   ·subst q; exact ⟨k,his,g1⟩
   ·exact i2 e' q
  ·cases h1
theorem OQ:∀ {ks:List Int} {es:List DictEntry},OO ks es=true→DE hashInt ks es→ks.length=es.length∧(∀ e∈es,∃ k,(intKind prog w).is k e.key=true∧e.hash=(intKind prog w).hash k)∧Pairs (intKind prog w) es (ks.zip (es.map (·.val)))
 | [],[],_,_=>⟨rfl,fun _ h=>(nomatch h),.nil⟩
 | [],_ :: _,h,_=>nomatch h
 | _ :: _,[],h,_=>nomatch h
 | k :: ks,e :: es,h,hh=>by
  simp only [OO,Bool.and_eq_true] at h
  (refine ob02 h ?_; clear h; intro h1 h2)
  (refine ob02 hh ?_; clear hh; intro g1 g2)
  refine ob03 (OQ h2 g2) fun i1 i2 i3=>?_
  split at h1
  ·rename_i t tk hk
   have:=of_decide_eq_true h1
   subst this
   have his:(intKind prog w).is k e.key=true:=by rw [hk]; exact intKind_is prog w k tk
   refine ⟨by simp [i1],fun e' he=>?_,.cons his rfl i3⟩
   rcases List.mem_cons.mp he with q | q
   ·subst q; exact ⟨k,his,g1⟩
   ·exact i2 e' q
  ·cases h1
theorem ajN {n:Nat} {a:Addr} {ks:List Str} {l:List AV} {es:Array DictEntry} {ep:Nat} (X:K.In h) (e:K.lookup a=some { cls:=.type "dict",data:=.dict es ep }) (hs:(!(Nat.beq a sysModules))=true) (hk:ON ks es.toList=true) (hh:DE (hashStr w) ks es.toList)
  (hn:ks.Nodup) (hv:chkL K n l (es.toList.map (·.val))=true):Has prog w (VX (fun _=>False) h) [] (.dS ks l) (.ref a):=by
 refine ob03 (OP (prog:=prog) hk hh) fun i1 i2 i3=>?_
 refine ⟨a,_,es.toList.map (·.val),rfl,⟨X a _ e,fun q=>q,notSm hs⟩,⟨es,ep,⟨rfl,rfl,rfl⟩,rfl,fun x hx=>i2 x (by simpa using hx),i3,?_⟩,by simp [i1],RT X n l _ hv⟩
 rw [List.map_fst_zip (by simp [i1])]; exact hn
theorem ajO {n:Nat} {a:Addr} {ks:List Int} {l:List AV} {es:Array DictEntry} {ep:Nat} (X:K.In h) (e:K.lookup a=some { cls:=.type "dict",data:=.dict es ep }) (hs:(!(Nat.beq a sysModules))=true) (hk:OO ks es.toList=true) (hh:DE hashInt ks es.toList)
  (hn:ks.Nodup) (hv:chkL K n l (es.toList.map (·.val))=true):Has prog w (VX (fun _=>False) h) [] (.dI ks l) (.ref a):=by
 refine ob03 (OQ (prog:=prog) (w:=w) hk hh) fun i1 i2 i3=>?_
 refine ⟨a,_,es.toList.map (·.val),rfl,⟨X a _ e,fun q=>q,notSm hs⟩,⟨es,ep,⟨rfl,rfl,rfl⟩,rfl,fun x hx=>i2 x (by simpa using hx),i3,?_⟩,by simp [i1],RT X n l _ hv⟩
 rw [List.map_fst_zip (by simp [i1])]; exact hn
theorem AW {C:Ctx} {G:Heap} {f:Str} {a:Addr} {fn:Nat} {sp:List AV→R AV} (hG:GOK prog w C G) (hm:∀ mg,G.Ns mainGlobals mg→mg f=some (.ref a)) (ho:∃ o fd,G.get? a=some o∧o.data=.func fd) (hf:PureFn prog w G a ⟨fn,sp⟩) (hn:∀ l,NoExc (sp l)) :
  GOK prog w { C with funs:=(f,⟨fn,sp⟩) :: C.funs } G:=by
 refine ob26 hG.names fun mg mb n1 n2 n3 n4 n5 n6=>?_
 refine ⟨⟨mg,mb,n1,n2,n3,n4,fun g fn' e=>?_,n6⟩⟩
 rw [List.lookup_cons] at e
 split at e
 ·rename_i q
  injection e with e
  subst e
  have:=eq_of_beq q
  subst this
  (refine ob22 ho ?_; clear ho; intro o fd e1 e2)
  exact ⟨a,o,fd,hm mg n1,e1,e2,hf,hn⟩
 ·exact n5 g fn' e
theorem MT {C:Ctx} {G:Heap} {f:Str} {a:Addr} {fn:WFn} (hG:GOK prog w C G) (hm:∀ mg,G.Ns mainGlobals mg→mg f=some (.ref a)) (ho:∃ o fd,G.get? a=some o∧o.data=.func fd) (hf:WellFn prog w G a fn) (hn:∀ x l,NoExc (fn.spec x l)) :
  GOK prog w { C with wfuns:=(f,fn) :: C.wfuns } G:=by
 refine ob26 hG.names fun mg mb n1 n2 n3 n4 n5 n6=>?_
 refine ⟨⟨mg,mb,n1,n2,n3,n4,n5,fun g fn' e=>?_⟩⟩
 rw [List.lookup_cons] at e
 split at e
 ·rename_i q
  injection e with e
  subst e
  have:=eq_of_beq q
  subst this
  (refine ob22 ho ?_; clear ho; intro o fd e1 e2)
  exact ⟨a,o,fd,hm mg n1,e1,e2,hf,hn⟩
 ·exact n6 g fn' e
def Sub (prog:Program) (w:World) (av av':AV):Prop:=∀ (V:Vis) (v:Value),Has prog w V [] av v→Has prog w V [] av' v
theorem PureFn.weaken {G:Heap} {a:Addr} {n:Nat} {sp sp':List AV→R AV} (h:PureFn prog w G a ⟨n,sp⟩) (hw:∀ (args:List AV) (P:AV→Prop),(sp' args).Holds P False→(sp args).Holds (fun av=>∃ av',P av'∧Sub prog w av av') False):PureFn prog w G a ⟨n,sp'⟩:=
 fun X fr s A vs avs P Q E h1 h2 h3 h4 h5 h6 h7 h8 h9=>h X fr s A vs avs _ Q E h1 h2 h3 h4 h5 h6 h7 (hw avs P h8) fun v s' av g hh ζ1=>ob12 ζ1 fun av' hp hs=>h9 v s' av' g (hs _ v hh) hp
theorem WellFn.weaken {G:Heap} {a:Addr} {n:Nat} {sp sp':List AV→List AV→R (List AV×AV)} (h:WellFn prog w G a ⟨n,sp⟩) (hw:∀ (items args:List AV) (P:List AV×AV→Prop),(sp' items args).Holds P False→(sp items args).Holds P False):WellFn prog w G a ⟨n,sp'⟩:=
 fun X fr s A wa ws m items vs avs P Q E h1 h2 h3 h4 h5 h6 h7 h8 h9 h10 h11 h12 h13=>h X fr s A wa ws m items vs avs P Q E h1 h2 h3 h4 h5 h6 h7 h8 h9 h10 h11 (hw items avs P h12) h13
end
end Mine
end
section
namespace Mine
section
noncomputable def AE (i:Nat):List Stmt:=match PySem.Challenge.pw_nm0009_01.main.body[i]? with | some (.FunctionDef _ _ b _ _ _ _ _ _ _)=>b | _=>[]
noncomputable def AC (i:Nat):PySem.Scope:=match PySem.Challenge.pw_nm0009_01.main.body[i]? with | some (.FunctionDef _ _ _ _ _ _ s _ _ _)=>s | _=>default
noncomputable def clo (v:AV):List AV→R AV:=fun args=>eNil args (.ret v)
def run (C:Ctx) (d i:Nat) (xs:List Str):List AV→R AV:=fun args=>noX (WL C d 60 (AC i) (AE i) xs args)
noncomputable def formsL:List Str:=["R","I","H","S","B","U","J","F","E"]
def drawL:List AV:=[v_BR,v_BI,v_BH,v_BS,v_BB,v_BU,v_BJ,v_BF,v_BE]
noncomputable def aaW:List AV→R AV:=fun args=>eOne args fun v=>EB v fun f=>onO (D7 formsL drawL f) .ret
noncomputable def aaX:List AV→R AV:=fun args=>eOne args fun x=>.need (x=HA) (.ret EY)
def c0:Ctx:=⟨globs,[],[],false⟩
noncomputable def Ctx.add (C:Ctx) (f:Str) (h:Nat) (sp:List AV→R AV):Ctx:={ C with funs:=(f,⟨h,sp⟩) :: C.funs }
def c1:Ctx:=c0.add "_law_pictures" 0 (clo v_P)
def c2:Ctx:=c1.add "_law_keys" 0 (clo v_K)
def c3:Ctx:=c2.add "_law_groups" 0 (clo v_G)
def c4:Ctx:=c3.add "_law_wrong_names" 0 (clo v_W)
def c5:Ctx:=c4.add "_law_no_instructions" 0 (clo v_N)
def c6:Ctx:=c5.add "register_number" 0 (run c5 0 16 ["text"])
def c7:Ctx:=c6.add "signed" 0 (run c6 0 17 ["value","width"])
def c8:Ctx:=c7.add "high_part" 0 (run c7 0 18 ["value"])
def c9:Ctx:=c8.add "low_part" 1 (run c8 1 19 ["value"])
def c10:Ctx:=c9.add "fits" 0 (run c9 0 20 ["name","imm"])
def c11:Ctx:=c10.add "imm_bits" 0 (run c10 0 21 ["form","imm"])
def c12:Ctx:=c11.add "imm_mask" 1 (run c11 1 22 ["form"])
def c13:Ctx:=c12.add "imm_of" 1 (run c12 1 23 ["form","word"])
def c14:Ctx:=c13.add "with_imm" 2 (run c13 2 24 ["word","form","imm"])
def c15:Ctx:=c14.add "_law_fields" 1 (run c14 1 42 ["form","known"])
def c16:Ctx:=c15.add "_law_laid" 0 (run c15 0 40 ["drawing","known"])
def c17:Ctx:=c16.add "_law_with" 0 (run c16 0 43 ["fields","key","value"])
def c18:Ctx:=c17.add "_law_rows" 1 (clo HA)
def c19:Ctx:=c18.add "_law_bits" 1 aaW
def c20:Ctx:=c19.add "_law_by_opcode" 1 aaX
end
end Mine
end
section
namespace MineH
section
noncomputable abbrev pw:Program:=PySem.Challenge.pw_nm0009_01
def fdP (i:Nat):Arguments:=match pw.main.body[i]? with | some (.FunctionDef _ a _ _ _ _ _ _ _ _)=>a | _=>default
def fdB (i:Nat):List Stmt:=match pw.main.body[i]? with | some (.FunctionDef _ _ b _ _ _ _ _ _ _)=>b | _=>[]
def fdS (i:Nat):Scope:=match pw.main.body[i]? with | some (.FunctionDef _ _ _ _ _ _ s _ _ _)=>s | _=>default
noncomputable def sv (x:String) (t:Nat):Value:=.str (Str.ofString x) t
noncomputable def iv (n t:Nat):Value:=.int (Int.ofNat n) t
noncomputable def ke (P:Params) (x:String) (t:Nat) (v:Value):DictEntry:=⟨PyData.keyHash P (Str.ofString x),.str (Str.ofString x) t,v⟩
noncomputable def ki (n t:Nat) (v:Value):DictEntry:=⟨Int.ofNat n,.int (Int.ofNat n) t,v⟩
noncomputable def ob (c:String) (d:Data):Obj:=⟨.type c,none,d,[].toArray⟩
noncomputable def fs (l:List Value):Data:=.fields l.toArray
noncomputable def sq (l:List Value):Data:=.seq l.toArray 0
noncomputable def dc (l:List DictEntry) (n:Nat):Data:=.dict l.toArray n
def tu (l:List Value):Obj:=ob "tuple" (sq l)
def si (n:Nat):Obj:=ob "StopIteration" (fs [.ref n,.none,.none,.none,.bool false,.none])
def ti:Obj:=ob "tuple_iterator" (fs [.none,iv 2 0])
def co (x:String) (t a b c d e:Nat) (l:List Value) (u:Nat):Obj:=ob "code" (fs ([sv x t,sv x (t+1),sv "/claim/cut.py" (t+2),iv a 0,iv b 0,iv c 0,iv d 0,iv e 0]++l++[iv u 0,iv a 0,sv "/claim/cut.py" (u+1)]))
abbrev Q:=Params→Obj
def iniP:Arguments:=match pw.main.body[1]? with | some (PySem.Stmt.ClassDef _ _ _ ((PySem.Stmt.FunctionDef _ a _ _ _ _ _ _ _ _) :: _) _ _ _ _ _ _ _)=>a | _=>default
def iniB:List Stmt:=match pw.main.body[1]? with | some (PySem.Stmt.ClassDef _ _ _ ((PySem.Stmt.FunctionDef _ _ b _ _ _ _ _ _ _) :: _) _ _ _ _ _ _ _)=>b | _=>[]
def iniS:Scope:=match pw.main.body[1]? with | some (PySem.Stmt.ClassDef _ _ _ ((PySem.Stmt.FunctionDef _ _ _ _ _ _ s _ _ _) :: _) _ _ _ _ _ _ _)=>s | _=>default
def fi (g:Nat) (m c:Value):FuncData:=⟨Str.ofString "__init__",Str.ofString "AssemblyFault.__init__",iniP,.stmts iniB,iniS,g,[],.none,.none,.none,m,none,c,.none,0⟩
def fu (x:String) (i:Nat) (m:Value) (c:Nat):Obj:=⟨.type "function",none,.func ⟨Str.ofString x,Str.ofString x,fdP i,.stmts (fdB i),fdS i,3,[],.none,.none,.none,m,none,.ref c,.none,0⟩,[].toArray⟩
def o2:Q:=fun P=>⟨.none,none,(.dict [ke P "type.__subclasses__.Exception.0" 216 (iv 31 0),ke P "type.__subclasses__.Exception.n" 217 (iv 1 0)].toArray 2),[].toArray⟩
def e3 (P:Params):List DictEntry:=[ke P "__doc__" 166 .none,ke P "__package__" 167 .none,ke P "__loader__" 168 (.builtin "__main__.__loader__#opaque"),ke P "__spec__" 169 .none,ke P "__annotations__" 170 (.ref 6),ke P "__builtins__" 171 (.ref 4),ke P "__file__" 173 (sv "/claim/cut.py" 172),ke P "__cached__" 174 .none,ke P "AssemblyFault" 219 (.ref 31),ke P "REGISTER_NAMES" 254 (.ref 35),ke P "LUI" 256 (iv 55 255),ke P "AUIPC" 258 (iv 23 257),ke P "JAL" 260 (iv 111 259),ke P "WITH_IMM" 262 (iv 19 261),ke P "WITH_REG" 264 (iv 51 263),ke P "FENCE" 266 (iv 15 265),ke P "SYSTEM" 268 (iv 115 267),ke P "INSTRUCTIONS" 461 (.ref 36),ke P "PLACES" 506 (.ref 87),ke P "BOUNDS" 546 (.ref 110),ke P "numbers_by_name" 555 (.ref 124),ke P "REGISTER_NUMBERS" 816 (.ref 126),ke P "register_number" 823 (.ref 265),ke P "signed" 832 (.ref 272),ke P "high_part" 839 (.ref 279),ke P "low_part" 846 (.ref 286),ke P "fits" 857 (.ref 293),ke P "imm_bits" 865 (.ref 300),ke P "imm_mask" 872 (.ref 307),ke P "imm_of" 881 (.ref 314),ke P "with_imm" 890 (.ref 321),ke P "encode" 903 (.ref 328),ke P "names_by_base" 909 (.ref 333),ke P "NAMES_BY_BASE" 1102 (.ref 337),ke P "name_of" 1111 (.ref 539),ke P "decode" 1123 (.ref 546),ke P "_law_pictures" 1131 (.ref 553),ke P "_law_turns" 1168 (.ref 554),ke P "_law_groups" 1174 (.ref 563),ke P "_law_keys" 1180 (.ref 570),ke P "_law_wrong_names" 1186 (.ref 577),ke P "_law_no_instructions" 1192 (.ref 584),ke P "_law_draw" 1204 (.ref 591),ke P "_law_rows" 1216 (.ref 598),ke P "_law_bits" 1229 (.ref 605),ke P "_law_laid" 1240 (.ref 612),ke P "_law_read" 1253 (.ref 619),ke P "_law_fields" 1264 (.ref 626),ke P "_law_with" 1275 (.ref 633),ke P "_law_is_refused" 1283 (.ref 640),ke P "_law_is_number_right" 1289 (.ref 645),ke P "_law_is_form_right" 1314 (.ref 652),ke P "_law_by_opcode" 1320 (.ref 657),ke P "_law_is_turned_right" 1338 (.ref 664),ke P "_law_are_parts_right" 1349 (.ref 671),ke P "_law_are_registers_right" 1355 (.ref 676),ke P "law" 1361 (.ref 681)]
def o3:Q:=fun P=>ob "dict" (dc (ke P "__name__" 165 (sv "law_nm0009_01" 1124) :: e3 P) 58)
def o11:Q:=fun _=>tu []
def f12:List Value:=[iv 2 0,iv 0 0,.ref 20,iv 20 0,iv 0 0,.ref 123,iv 27 0,iv 0 0,.ref 264,iv 29 0,iv 0 0,.ref 271,iv 32 0,iv 0 0,.ref 278,iv 34 0,iv 0 0,.ref 285,iv 36 0,iv 0 0,.ref 292,iv 39 0,iv 0 0,.ref 299,iv 53 0,iv 0 0,.ref 306,iv 55 0,iv 0 0,.ref 313,iv 71 0,iv 0 0,.ref 320,iv 73 0,iv 0 0,.ref 327,iv 87 0,iv 0 0,.ref 332,iv 90 0,iv 0 0,.ref 538,iv 101 0,iv 0 0,.ref 545,iv 113 0,iv 0 0,.ref 552,iv 116 0,iv 0 0,.ref 562,iv 118 0,iv 0 0,.ref 569,iv 120 0,iv 0 0,.ref 576,iv 122 0,iv 0 0,.ref 583,iv 124 0,iv 0 0,.ref 590,iv 137 0,iv 0 0,.ref 597,iv 144 0,iv 0 0,.ref 604,iv 152 0,iv 0 0,.ref 611,iv 157 0,iv 0 0,.ref 618,iv 165 0,iv 0 0,.ref 625,iv 171 0,iv 0 0,.ref 632,iv 179 0,iv 0 0,.ref 639,iv 185 0,iv 0 0,.ref 644,iv 205 0,iv 0 0,.ref 651,iv 223 0,iv 0 0,.ref 656,iv 231 0,iv 0 0,.ref 663,iv 241 0,iv 0 0,.ref 670,iv 246 0,iv 0 0,.ref 675,iv 252 0,iv 0 0,.ref 680]
def o12:Q:=fun _=>⟨.none,none,(.fields f12.toArray),[].toArray⟩
def o13:Q:=fun _=>co "<module>" 182 1 0 0 0 0 [.ref 11,(.bool false),iv 181 0,.ref 12,.none,.none,.none,.none] 185
def o14:Q:=fun _=>⟨(.type "frame"),none,.plain,[(some (.ref 13)),(some (.ref 3)),(some (.ref 3)),none,(some (sv "__main__" 164)),none,(some (.ref 0))].toArray⟩
def o15:Q:=fun _=>tu [(.type "Exception")]
def o22:Q:=fun _=>tu []
noncomputable def o23:Q:=fun _=>⟨.none,none,(.fields [].toArray),[].toArray⟩
def o24:Q:=fun _=>tu [sv "self" 204,sv "word" 205,sv "line" 206]
def o25:Q:=fun _=>tu []
def o26:Q:=fun _=>⟨.none,none,.func (fi 0 .none .none),#[]⟩
def o27:Q:=fun _=>ob "code" (fs [sv "__init__" 201,sv "AssemblyFault.__init__" 202,sv "/claim/cut.py" 203,iv 4 0,iv 3 0,iv 0 0,iv 0 0,iv 3 0,.ref 22,(.bool true),iv 181 0,.ref 23,.none,.ref 24,.ref 25,.ref 26,iv 207 0,iv 4 0,sv "/claim/cut.py" 208])
def o28:Q:=fun _=>ob "function" (.func (fi 3 (sv "corecc.errors" 187) (.ref 27)))
def o29:Q:=fun _=>tu [sv "line" 210,sv "word" 211]
def o30:Q:=fun P=>ob "dict" (dc [ke P "__module__" 196 (sv "corecc.errors" 187),ke P "__firstlineno__" 200 (iv 2 199),ke P "__init__" 209 (.ref 28),ke P "__static_attributes__" 212 (.ref 29),ke P "__weakref__" 214 (.ref 32),ke P "__doc__" 215 .none] 3)
def o31:Q:=fun _=>excClassObj "AssemblyFault" "AssemblyFault" 31 30 [.type "Exception"] [.type "Exception",.type "BaseException",.type "object"] true [] [] false none none (some (.ref 15)) none (some (sv "AssemblyFault" 189)) (some (sv "AssemblyFault" 197)) (some (.bool true)) "Exception.__new__"
def o32:Q:=fun _=>ob "getset_descriptor" (fs [sv "__weakref__" 213,.ref 31,(.builtin "ExceptionGroup.__weakref__"),.none])
def o35:Q:=fun _=>ob "list" (sq [sv "zero" 222,sv "ra" 223,sv "sp" 224,sv "gp" 225,sv "tp" 226,sv "t0" 227,sv "t1" 228,sv "t2" 229,sv "s0" 230,sv "s1" 231,sv "a0" 232,sv "a1" 233,sv "a2" 234,sv "a3" 235,sv "a4" 236,sv "a5" 237,sv "a6" 238,sv "a7" 239,sv "s2" 240,sv "s3" 241,sv "s4" 242,sv "s5" 243,sv "s6" 244,sv "s7" 245,sv "s8" 246,sv "s9" 247,sv "s10" 248,sv "s11" 249,sv "t3" 250,sv "t4" 251,sv "t5" 252,sv "t6" 253])
def o36:Q:=fun P=>ob "dict" (dc [ke P "lui" 269 (.ref 37),ke P "auipc" 273 (.ref 38),ke P "jal" 277 (.ref 39),ke P "jalr" 281 (.ref 40),ke P "beq" 285 (.ref 41),ke P "bne" 289 (.ref 42),ke P "blt" 293 (.ref 43),ke P "bge" 297 (.ref 44),ke P "bltu" 301 (.ref 45),ke P "bgeu" 305 (.ref 46),ke P "lb" 309 (.ref 47),ke P "lh" 313 (.ref 48),ke P "lw" 317 (.ref 49),ke P "lbu" 321 (.ref 50),ke P "lhu" 325 (.ref 51),ke P "sb" 329 (.ref 52),ke P "sh" 333 (.ref 53),ke P "sw" 337 (.ref 55),ke P "addi" 341 (.ref 56),ke P "slti" 345 (.ref 57),ke P "sltiu" 349 (.ref 58),ke P "xori" 353 (.ref 59),ke P "ori" 357 (.ref 60),ke P "andi" 361 (.ref 61),ke P "slli" 365 (.ref 62),ke P "srli" 369 (.ref 63),ke P "srai" 373 (.ref 64),ke P "add" 377 (.ref 65),ke P "sub" 381 (.ref 66),ke P "sll" 385 (.ref 67),ke P "slt" 389 (.ref 68),ke P "sltu" 393 (.ref 69),ke P "xor" 397 (.ref 70),ke P "srl" 401 (.ref 71),ke P "sra" 405 (.ref 73),ke P "or" 408 (.ref 74),ke P "and" 411 (.ref 75),ke P "mul" 414 (.ref 76),ke P "mulh" 417 (.ref 77),ke P "mulhsu" 420 (.ref 78),ke P "mulhu" 423 (.ref 79),ke P "div" 426 (.ref 80),ke P "divu" 429 (.ref 81),ke P "rem" 432 (.ref 82),ke P "remu" 435 (.ref 83),ke P "fence" 438 (.ref 84),ke P "ecall" 441 (.ref 85),ke P "ebreak" 444 (.ref 86)] 48)
def o37:Q:=fun _=>tu [sv "U" 270,iv 55 271]
def o38:Q:=fun _=>tu [sv "U" 274,iv 23 275]
def o39:Q:=fun _=>tu [sv "J" 278,iv 111 279]
def o40:Q:=fun _=>tu [sv "I" 282,iv 103 283]
def o41:Q:=fun _=>tu [sv "B" 286,iv 99 287]
def o42:Q:=fun _=>tu [sv "B" 290,iv 4195 291]
def o43:Q:=fun _=>tu [sv "B" 294,iv 16483 295]
def o44:Q:=fun _=>tu [sv "B" 298,iv 20579 299]
def o45:Q:=fun _=>tu [sv "B" 302,iv 24675 303]
def o46:Q:=fun _=>tu [sv "B" 306,iv 28771 307]
def o47:Q:=fun _=>tu [sv "I" 310,iv 3 311]
def o48:Q:=fun _=>tu [sv "I" 314,iv 4099 315]
def o49:Q:=fun _=>tu [sv "I" 318,iv 8195 319]
def o50:Q:=fun _=>tu [sv "I" 322,iv 16387 323]
def o51:Q:=fun _=>tu [sv "I" 326,iv 20483 327]
def o52:Q:=fun _=>tu [sv "S" 330,iv 35 331]
def o53:Q:=fun _=>tu [sv "S" 334,iv 4131 335]
def o55:Q:=fun _=>tu [sv "S" 338,iv 8227 339]
def o56:Q:=fun _=>tu [sv "I" 342,iv 19 343]
def o57:Q:=fun _=>tu [sv "I" 346,iv 8211 347]
def o58:Q:=fun _=>tu [sv "I" 350,iv 12307 351]
def o59:Q:=fun _=>tu [sv "I" 354,iv 16403 355]
def o60:Q:=fun _=>tu [sv "I" 358,iv 24595 359]
def o61:Q:=fun _=>tu [sv "I" 362,iv 28691 363]
def o62:Q:=fun _=>tu [sv "H" 366,iv 4115 367]
def o63:Q:=fun _=>tu [sv "H" 370,iv 20499 371]
def o64:Q:=fun _=>tu [sv "H" 374,iv 1073762323 375]
def o65:Q:=fun _=>tu [sv "R" 378,iv 51 379]
def o66:Q:=fun _=>tu [sv "R" 382,iv 1073741875 383]
def o67:Q:=fun _=>tu [sv "R" 386,iv 4147 387]
def o68:Q:=fun _=>tu [sv "R" 390,iv 8243 391]
def o69:Q:=fun _=>tu [sv "R" 394,iv 12339 395]
def o70:Q:=fun _=>tu [sv "R" 398,iv 16435 399]
def o71:Q:=fun _=>tu [sv "R" 402,iv 20531 403]
def o73:Q:=fun _=>tu [sv "R" 406,iv 1073762355 407]
def o74:Q:=fun _=>tu [sv "R" 409,iv 24627 410]
def o75:Q:=fun _=>tu [sv "R" 412,iv 28723 413]
def o76:Q:=fun _=>tu [sv "R" 415,iv 33554483 416]
def o77:Q:=fun _=>tu [sv "R" 418,iv 33558579 419]
def o78:Q:=fun _=>tu [sv "R" 421,iv 33562675 422]
def o79:Q:=fun _=>tu [sv "R" 424,iv 33566771 425]
def o80:Q:=fun _=>tu [sv "R" 427,iv 33570867 428]
def o81:Q:=fun _=>tu [sv "R" 430,iv 33574963 431]
def o82:Q:=fun _=>tu [sv "R" 433,iv 33579059 434]
def o83:Q:=fun _=>tu [sv "R" 436,iv 33583155 437]
def o84:Q:=fun _=>tu [sv "F" 439,iv 15 440]
def o85:Q:=fun _=>tu [sv "E" 442,iv 115 443]
def o86:Q:=fun _=>tu [sv "E" 445,iv 1048691 446]
def o87:Q:=fun P=>ob "dict" (dc [ke P "R" 462 (.ref 91),ke P "I" 469 (.ref 94),ke P "H" 474 (.ref 97),ke P "S" 479 (.ref 100),ke P "B" 484 (.ref 103),ke P "U" 489 (.ref 105),ke P "J" 492 (.ref 107),ke P "F" 495 (.ref 108),ke P "E" 496 (.ref 109)] 9)
def o88:Q:=fun _=>tu [sv "rd" 463,iv 7 464]
def o89:Q:=fun _=>tu [sv "rs1" 465,iv 15 466]
def o90:Q:=fun _=>tu [sv "rs2" 467,iv 20 468]
def o91:Q:=fun _=>tu [.ref 88,.ref 89,.ref 90]
def o92:Q:=fun _=>tu [sv "rd" 470,iv 7 471]
def o93:Q:=fun _=>tu [sv "rs1" 472,iv 15 473]
def o94:Q:=fun _=>tu [.ref 92,.ref 93]
def o95:Q:=fun _=>tu [sv "rd" 475,iv 7 476]
def o96:Q:=fun _=>tu [sv "rs1" 477,iv 15 478]
def o97:Q:=fun _=>tu [.ref 95,.ref 96]
def o98:Q:=fun _=>tu [sv "rs1" 480,iv 15 481]
def o99:Q:=fun _=>tu [sv "rs2" 482,iv 20 483]
def o100:Q:=fun _=>tu [.ref 98,.ref 99]
def o101:Q:=fun _=>tu [sv "rs1" 485,iv 15 486]
def o102:Q:=fun _=>tu [sv "rs2" 487,iv 20 488]
def o103:Q:=fun _=>tu [.ref 101,.ref 102]
def o104:Q:=fun _=>tu [sv "rd" 490,iv 7 491]
def o105:Q:=fun _=>tu [.ref 104]
def o106:Q:=fun _=>tu [sv "rd" 493,iv 7 494]
def o107:Q:=fun _=>tu [.ref 106]
def o108:Q:=fun _=>tu []
def o109:Q:=fun _=>tu []
def o110:Q:=fun P=>ob "dict" (dc [ke P "I" 507 (.ref 111),ke P "H" 512 (.ref 112),ke P "S" 516 (.ref 113),ke P "B" 521 (.ref 114),ke P "U" 526 (.ref 115),ke P "J" 530 (.ref 116),ke P "F" 535 (.ref 117)] 7)
def o111:Q:=fun _=>tu [(.int (Int.negSucc 2047) 509),iv 2047 510,iv 1 511]
def o112:Q:=fun _=>tu [iv 0 513,iv 31 514,iv 1 515]
def o113:Q:=fun _=>tu [(.int (Int.negSucc 2047) 518),iv 2047 519,iv 1 520]
def o114:Q:=fun _=>tu [(.int (Int.negSucc 4095) 523),iv 4094 524,iv 2 525]
def o115:Q:=fun _=>tu [iv 0 527,iv 1048575 528,iv 1 529]
def o116:Q:=fun _=>tu [(.int (Int.negSucc 1048575) 532),iv 1048574 533,iv 2 534]
def o117:Q:=fun _=>tu [iv 0 536,iv 255 537,iv 1 538]
def o126:Q:=fun P=>ob "dict" (dc [ke P "fp" 556 (iv 8 557),ke P "zero" 222 (iv 0 560),ke P "x0" 566 (iv 0 560),ke P "ra" 223 (iv 1 568),ke P "x1" 574 (iv 1 568),ke P "sp" 224 (iv 2 576),ke P "x2" 582 (iv 2 576),ke P "gp" 225 (iv 3 584),ke P "x3" 590 (iv 3 584),ke P "tp" 226 (iv 4 592),ke P "x4" 598 (iv 4 592),ke P "t0" 227 (iv 5 600),ke P "x5" 606 (iv 5 600),ke P "t1" 228 (iv 6 608),ke P "x6" 614 (iv 6 608),ke P "t2" 229 (iv 7 616),ke P "x7" 622 (iv 7 616),ke P "s0" 230 (iv 8 624),ke P "x8" 630 (iv 8 624),ke P "s1" 231 (iv 9 632),ke P "x9" 638 (iv 9 632),ke P "a0" 232 (iv 10 640),ke P "x10" 646 (iv 10 640),ke P "a1" 233 (iv 11 648),ke P "x11" 654 (iv 11 648),ke P "a2" 234 (iv 12 656),ke P "x12" 662 (iv 12 656),ke P "a3" 235 (iv 13 664),ke P "x13" 670 (iv 13 664),ke P "a4" 236 (iv 14 672),ke P "x14" 678 (iv 14 672),ke P "a5" 237 (iv 15 680),ke P "x15" 686 (iv 15 680),ke P "a6" 238 (iv 16 688),ke P "x16" 694 (iv 16 688),ke P "a7" 239 (iv 17 696),ke P "x17" 702 (iv 17 696),ke P "s2" 240 (iv 18 704),ke P "x18" 710 (iv 18 704),ke P "s3" 241 (iv 19 712),ke P "x19" 718 (iv 19 712),ke P "s4" 242 (iv 20 720),ke P "x20" 726 (iv 20 720),ke P "s5" 243 (iv 21 728),ke P "x21" 734 (iv 21 728),ke P "s6" 244 (iv 22 736),ke P "x22" 742 (iv 22 736),ke P "s7" 245 (iv 23 744),ke P "x23" 750 (iv 23 744),ke P "s8" 246 (iv 24 752),ke P "x24" 758 (iv 24 752),ke P "s9" 247 (iv 25 760),ke P "x25" 766 (iv 25 760),ke P "s10" 248 (iv 26 768),ke P "x26" 774 (iv 26 768),ke P "s11" 249 (iv 27 776),ke P "x27" 782 (iv 27 776),ke P "t3" 250 (iv 28 784),ke P "x28" 790 (iv 28 784),ke P "t4" 251 (iv 29 792),ke P "x29" 798 (iv 29 792),ke P "t5" 252 (iv 30 800),ke P "x30" 806 (iv 30 800),ke P "t6" 253 (iv 31 808),ke P "x31" 814 (iv 31 808)] 65)
def o259:Q:=fun _=>tu []
noncomputable def o260:Q:=fun _=>⟨.none,none,(.fields [].toArray),[].toArray⟩
def o261:Q:=fun _=>tu [sv "text" 820]
def o262:Q:=fun _=>tu []
def o263:Q:=fun _=>⟨.none,none,(.func ⟨(Str.ofString "register_number"),(Str.ofString "register_number"),fdP 16,.stmts (fdB 16),fdS 16,0,[],.none,.none,.none,.none,none,.none,.none,0⟩),[].toArray⟩
def o264:Q:=fun _=>co "register_number" 817 27 1 0 0 3 [.ref 259,(.bool true),iv 181 0,.ref 260,.none,.ref 261,.ref 262,.ref 263] 821
def o265:Q:=fun _=>fu "register_number" 16 (sv "corecc.rv32" 220) 264
def o266:Q:=fun _=>tu []
noncomputable def o267:Q:=fun _=>⟨.none,none,(.fields [].toArray),[].toArray⟩
def o268:Q:=fun _=>tu [sv "value" 827,sv "width" 828,sv "low" 829]
def o269:Q:=fun _=>tu []
def o270:Q:=fun _=>⟨.none,none,(.func ⟨(Str.ofString "signed"),(Str.ofString "signed"),fdP 17,.stmts (fdB 17),fdS 17,0,[],.none,.none,.none,.none,none,.none,.none,0⟩),[].toArray⟩
def o271:Q:=fun _=>co "signed" 824 29 2 0 0 3 [.ref 266,(.bool true),iv 181 0,.ref 267,.none,.ref 268,.ref 269,.ref 270] 830
def o272:Q:=fun _=>fu "signed" 17 (sv "corecc.rv32" 220) 271
def o273:Q:=fun _=>tu []
noncomputable def o274:Q:=fun _=>⟨.none,none,(.fields [].toArray),[].toArray⟩
def o275:Q:=fun _=>tu [sv "value" 836]
def o276:Q:=fun _=>tu []
def o277:Q:=fun _=>⟨.none,none,(.func ⟨(Str.ofString "high_part"),(Str.ofString "high_part"),fdP 18,.stmts (fdB 18),fdS 18,0,[],.none,.none,.none,.none,none,.none,.none,0⟩),[].toArray⟩
def o278:Q:=fun _=>co "high_part" 833 32 1 0 0 3 [.ref 273,(.bool true),iv 181 0,.ref 274,.none,.ref 275,.ref 276,.ref 277] 837
def o279:Q:=fun _=>fu "high_part" 18 (sv "corecc.rv32" 220) 278
def o280:Q:=fun _=>tu []
noncomputable def o281:Q:=fun _=>⟨.none,none,(.fields [].toArray),[].toArray⟩
def o282:Q:=fun _=>tu [sv "value" 843]
def o283:Q:=fun _=>tu []
def o284:Q:=fun _=>⟨.none,none,(.func ⟨(Str.ofString "low_part"),(Str.ofString "low_part"),fdP 19,.stmts (fdB 19),fdS 19,0,[],.none,.none,.none,.none,none,.none,.none,0⟩),[].toArray⟩
def o285:Q:=fun _=>co "low_part" 840 34 1 0 0 3 [.ref 280,(.bool true),iv 181 0,.ref 281,.none,.ref 282,.ref 283,.ref 284] 844
def o286:Q:=fun _=>fu "low_part" 19 (sv "corecc.rv32" 220) 285
def o287:Q:=fun _=>tu []
noncomputable def o288:Q:=fun _=>⟨.none,none,(.fields [].toArray),[].toArray⟩
def o289:Q:=fun _=>tu [sv "name" 850,sv "imm" 851,sv "least" 852,sv "most" 853,sv "by" 854]
def o290:Q:=fun _=>tu []
def o291:Q:=fun _=>⟨.none,none,(.func ⟨(Str.ofString "fits"),(Str.ofString "fits"),fdP 20,.stmts (fdB 20),fdS 20,0,[],.none,.none,.none,.none,none,.none,.none,0⟩),[].toArray⟩
def o292:Q:=fun _=>co "fits" 847 36 2 0 0 3 [.ref 287,(.bool true),iv 181 0,.ref 288,.none,.ref 289,.ref 290,.ref 291] 855
def o293:Q:=fun _=>fu "fits" 20 (sv "corecc.rv32" 220) 292
def o294:Q:=fun _=>tu []
noncomputable def o295:Q:=fun _=>⟨.none,none,(.fields [].toArray),[].toArray⟩
def o296:Q:=fun _=>tu [sv "form" 861,sv "imm" 862]
def o297:Q:=fun _=>tu []
def o298:Q:=fun _=>⟨.none,none,(.func ⟨(Str.ofString "imm_bits"),(Str.ofString "imm_bits"),fdP 21,.stmts (fdB 21),fdS 21,0,[],.none,.none,.none,.none,none,.none,.none,0⟩),[].toArray⟩
def o299:Q:=fun _=>co "imm_bits" 858 39 2 0 0 3 [.ref 294,(.bool true),iv 181 0,.ref 295,.none,.ref 296,.ref 297,.ref 298] 863
def o300:Q:=fun _=>fu "imm_bits" 21 (sv "corecc.rv32" 220) 299
def o301:Q:=fun _=>tu []
noncomputable def o302:Q:=fun _=>⟨.none,none,(.fields [].toArray),[].toArray⟩
def o303:Q:=fun _=>tu [sv "form" 869]
def o304:Q:=fun _=>tu []
def o305:Q:=fun _=>⟨.none,none,(.func ⟨(Str.ofString "imm_mask"),(Str.ofString "imm_mask"),fdP 22,.stmts (fdB 22),fdS 22,0,[],.none,.none,.none,.none,none,.none,.none,0⟩),[].toArray⟩
def o306:Q:=fun _=>co "imm_mask" 866 53 1 0 0 3 [.ref 301,(.bool true),iv 181 0,.ref 302,.none,.ref 303,.ref 304,.ref 305] 870
def o307:Q:=fun _=>fu "imm_mask" 22 (sv "corecc.rv32" 220) 306
def o308:Q:=fun _=>tu []
noncomputable def o309:Q:=fun _=>⟨.none,none,(.fields [].toArray),[].toArray⟩
def o310:Q:=fun _=>tu [sv "form" 876,sv "word" 877,sv "high" 878]
def o311:Q:=fun _=>tu []
def o312:Q:=fun _=>⟨.none,none,(.func ⟨(Str.ofString "imm_of"),(Str.ofString "imm_of"),fdP 23,.stmts (fdB 23),fdS 23,0,[],.none,.none,.none,.none,none,.none,.none,0⟩),[].toArray⟩
def o313:Q:=fun _=>co "imm_of" 873 55 2 0 0 3 [.ref 308,(.bool true),iv 181 0,.ref 309,.none,.ref 310,.ref 311,.ref 312] 879
def o314:Q:=fun _=>fu "imm_of" 23 (sv "corecc.rv32" 220) 313
def o315:Q:=fun _=>tu []
noncomputable def o316:Q:=fun _=>⟨.none,none,(.fields [].toArray),[].toArray⟩
def o317:Q:=fun _=>tu [sv "word" 885,sv "form" 886,sv "imm" 887]
def o318:Q:=fun _=>tu []
def o319:Q:=fun _=>⟨.none,none,(.func ⟨(Str.ofString "with_imm"),(Str.ofString "with_imm"),fdP 24,.stmts (fdB 24),fdS 24,0,[],.none,.none,.none,.none,none,.none,.none,0⟩),[].toArray⟩
def o320:Q:=fun _=>co "with_imm" 882 71 3 0 0 3 [.ref 315,(.bool true),iv 181 0,.ref 316,.none,.ref 317,.ref 318,.ref 319] 888
def o321:Q:=fun _=>fu "with_imm" 24 (sv "corecc.rv32" 220) 320
def o322:Q:=fun _=>tu []
noncomputable def o323:Q:=fun _=>⟨.none,none,(.fields [].toArray),[].toArray⟩
def o324:Q:=fun _=>tu [sv "name" 894,sv "fields" 895,sv "form" 896,sv "found" 897,sv "key" 898,sv "shift" 899,sv "number" 900]
def o325:Q:=fun _=>tu []
def o326:Q:=fun _=>⟨.none,none,(.func ⟨(Str.ofString "encode"),(Str.ofString "encode"),fdP 25,.stmts (fdB 25),fdS 25,0,[],.none,.none,.none,.none,none,.none,.none,0⟩),[].toArray⟩
def o327:Q:=fun _=>co "encode" 891 73 2 0 0 3 [.ref 322,(.bool true),iv 181 0,.ref 323,.none,.ref 324,.ref 325,.ref 326] 901
def o328:Q:=fun _=>fu "encode" 25 (sv "corecc.rv32" 220) 327
def o337:Q:=fun _=>ob "dict" (dc [ki 55 271 (sv "lui" 269),ki 23 275 (sv "auipc" 273),ki 111 279 (sv "jal" 277),ki 103 283 (sv "jalr" 281),ki 99 287 (sv "beq" 285),ki 4195 291 (sv "bne" 289),ki 16483 295 (sv "blt" 293),ki 20579 299 (sv "bge" 297),ki 24675 303 (sv "bltu" 301),ki 28771 307 (sv "bgeu" 305),ki 3 311 (sv "lb" 309),ki 4099 315 (sv "lh" 313),ki 8195 319 (sv "lw" 317),ki 16387 323 (sv "lbu" 321),ki 20483 327 (sv "lhu" 325),ki 35 331 (sv "sb" 329),ki 4131 335 (sv "sh" 333),ki 8227 339 (sv "sw" 337),ki 19 343 (sv "addi" 341),ki 8211 347 (sv "slti" 345),ki 12307 351 (sv "sltiu" 349),ki 16403 355 (sv "xori" 353),ki 24595 359 (sv "ori" 357),ki 28691 363 (sv "andi" 361),ki 4115 367 (sv "slli" 365),ki 20499 371 (sv "srli" 369),ki 1073762323 375 (sv "srai" 373),ki 51 379 (sv "add" 377),ki 1073741875 383 (sv "sub" 381),ki 4147 387 (sv "sll" 385),ki 8243 391 (sv "slt" 389),ki 12339 395 (sv "sltu" 393),ki 16435 399 (sv "xor" 397),ki 20531 403 (sv "srl" 401),ki 1073762355 407 (sv "sra" 405),ki 24627 410 (sv "or" 408),ki 28723 413 (sv "and" 411),ki 33554483 416 (sv "mul" 414),ki 33558579 419 (sv "mulh" 417),ki 33562675 422 (sv "mulhsu" 420),ki 33566771 425 (sv "mulhu" 423),ki 33570867 428 (sv "div" 426),ki 33574963 431 (sv "divu" 429),ki 33579059 434 (sv "rem" 432),ki 33583155 437 (sv "remu" 435),ki 15 440 (sv "fence" 438),ki 115 443 (sv "ecall" 441),ki 1048691 446 (sv "ebreak" 444)] 48)
def o533:Q:=fun _=>tu []
noncomputable def o534:Q:=fun _=>⟨.none,none,(.fields [].toArray),[].toArray⟩
def o535:Q:=fun _=>tu [sv "word" 1106,sv "opcode" 1107,sv "low" 1108]
def o536:Q:=fun _=>tu []
def o537:Q:=fun _=>⟨.none,none,(.func ⟨(Str.ofString "name_of"),(Str.ofString "name_of"),fdP 28,.stmts (fdB 28),fdS 28,0,[],.none,.none,.none,.none,none,.none,.none,0⟩),[].toArray⟩
def o538:Q:=fun _=>co "name_of" 1103 90 1 0 0 3 [.ref 533,(.bool true),iv 181 0,.ref 534,.none,.ref 535,.ref 536,.ref 537] 1109
def o539:Q:=fun _=>fu "name_of" 28 (sv "corecc.rv32" 220) 538
def o540:Q:=fun _=>tu []
noncomputable def o541:Q:=fun _=>⟨.none,none,(.fields [].toArray),[].toArray⟩
def o542:Q:=fun _=>tu [sv "word" 1115,sv "name" 1116,sv "form" 1117,sv "fields" 1118,sv "key" 1119,sv "shift" 1120]
def o543:Q:=fun _=>tu []
def o544:Q:=fun _=>⟨.none,none,(.func ⟨(Str.ofString "decode"),(Str.ofString "decode"),fdP 29,.stmts (fdB 29),fdS 29,0,[],.none,.none,.none,.none,none,.none,.none,0⟩),[].toArray⟩
def o545:Q:=fun _=>co "decode" 1112 101 1 0 0 3 [.ref 540,(.bool true),iv 181 0,.ref 541,.none,.ref 542,.ref 543,.ref 544] 1121
def o546:Q:=fun _=>fu "decode" 29 (sv "corecc.rv32" 220) 545
def o547:Q:=fun _=>tu []
noncomputable def o548:Q:=fun _=>⟨.none,none,(.fields [].toArray),[].toArray⟩
def o549:Q:=fun _=>tu []
def o550:Q:=fun _=>tu []
def o551:Q:=fun _=>⟨.none,none,(.func ⟨(Str.ofString "_law_pictures"),(Str.ofString "_law_pictures"),fdP 31,.stmts (fdB 31),fdS 31,0,[],.none,.none,.none,.none,none,.none,.none,0⟩),[].toArray⟩
def o552:Q:=fun _=>co "_law_pictures" 1126 113 0 0 0 3 [.ref 547,(.bool true),iv 181 0,.ref 548,.none,.ref 549,.ref 550,.ref 551] 1129
def o553:Q:=fun _=>fu "_law_pictures" 31 (sv "law_nm0009_01" 1124) 552
def o554:Q:=fun P=>ob "dict" (dc [ke P "B" 1132 (.ref 555),ke P "J" 1145 (.ref 556)] 2)
def o555:Q:=fun _=>ob "list" (sq [iv 12 1133,iv 10 1134,iv 9 1135,iv 8 1136,iv 7 1137,iv 6 1138,iv 5 1139,iv 4 1140,iv 3 1141,iv 2 1142,iv 1 1143,iv 11 1144])
def o556:Q:=fun _=>ob "list" (sq [iv 20 1146,iv 10 1147,iv 9 1148,iv 8 1149,iv 7 1150,iv 6 1151,iv 5 1152,iv 4 1153,iv 3 1154,iv 2 1155,iv 1 1156,iv 11 1157,iv 19 1158,iv 18 1159,iv 17 1160,iv 16 1161,iv 15 1162,iv 14 1163,iv 13 1164,iv 12 1165])
def o557:Q:=fun _=>tu []
noncomputable def o558:Q:=fun _=>⟨.none,none,(.fields [].toArray),[].toArray⟩
def o559:Q:=fun _=>tu []
def o560:Q:=fun _=>tu []
def o561:Q:=fun _=>⟨.none,none,(.func ⟨(Str.ofString "_law_groups"),(Str.ofString "_law_groups"),fdP 33,.stmts (fdB 33),fdS 33,0,[],.none,.none,.none,.none,none,.none,.none,0⟩),[].toArray⟩
def o562:Q:=fun _=>co "_law_groups" 1169 116 0 0 0 3 [.ref 557,(.bool true),iv 181 0,.ref 558,.none,.ref 559,.ref 560,.ref 561] 1172
def o563:Q:=fun _=>fu "_law_groups" 33 (sv "law_nm0009_01" 1124) 562
def o564:Q:=fun _=>tu []
noncomputable def o565:Q:=fun _=>⟨.none,none,(.fields [].toArray),[].toArray⟩
def o566:Q:=fun _=>tu []
def o567:Q:=fun _=>tu []
def o568:Q:=fun _=>⟨.none,none,(.func ⟨(Str.ofString "_law_keys"),(Str.ofString "_law_keys"),fdP 34,.stmts (fdB 34),fdS 34,0,[],.none,.none,.none,.none,none,.none,.none,0⟩),[].toArray⟩
def o569:Q:=fun _=>co "_law_keys" 1175 118 0 0 0 3 [.ref 564,(.bool true),iv 181 0,.ref 565,.none,.ref 566,.ref 567,.ref 568] 1178
def o570:Q:=fun _=>fu "_law_keys" 34 (sv "law_nm0009_01" 1124) 569
def o571:Q:=fun _=>tu []
noncomputable def o572:Q:=fun _=>⟨.none,none,(.fields [].toArray),[].toArray⟩
def o573:Q:=fun _=>tu []
def o574:Q:=fun _=>tu []
def o575:Q:=fun _=>⟨.none,none,(.func ⟨(Str.ofString "_law_wrong_names"),(Str.ofString "_law_wrong_names"),fdP 35,.stmts (fdB 35),fdS 35,0,[],.none,.none,.none,.none,none,.none,.none,0⟩),[].toArray⟩
def o576:Q:=fun _=>co "_law_wrong_names" 1181 120 0 0 0 3 [.ref 571,(.bool true),iv 181 0,.ref 572,.none,.ref 573,.ref 574,.ref 575] 1184
def o577:Q:=fun _=>fu "_law_wrong_names" 35 (sv "law_nm0009_01" 1124) 576
def o578:Q:=fun _=>tu []
noncomputable def o579:Q:=fun _=>⟨.none,none,(.fields [].toArray),[].toArray⟩
def o580:Q:=fun _=>tu []
def o581:Q:=fun _=>tu []
def o582:Q:=fun _=>⟨.none,none,(.func ⟨(Str.ofString "_law_no_instructions"),(Str.ofString "_law_no_instructions"),fdP 36,.stmts (fdB 36),fdS 36,0,[],.none,.none,.none,.none,none,.none,.none,0⟩),[].toArray⟩
def o583:Q:=fun _=>co "_law_no_instructions" 1187 122 0 0 0 3 [.ref 578,(.bool true),iv 181 0,.ref 579,.none,.ref 580,.ref 581,.ref 582] 1190
def o584:Q:=fun _=>fu "_law_no_instructions" 36 (sv "law_nm0009_01" 1124) 583
def o585:Q:=fun _=>tu []
noncomputable def o586:Q:=fun _=>⟨.none,none,(.fields [].toArray),[].toArray⟩
def o587:Q:=fun _=>tu [sv "well" 1196,sv "sizes" 1197,sv "at" 1198,sv "value" 1199,sv "found" 1200,sv "size" 1201]
def o588:Q:=fun _=>tu []
def o589:Q:=fun _=>⟨.none,none,(.func ⟨(Str.ofString "_law_draw"),(Str.ofString "_law_draw"),fdP 37,.stmts (fdB 37),fdS 37,0,[],.none,.none,.none,.none,none,.none,.none,0⟩),[].toArray⟩
def o590:Q:=fun _=>co "_law_draw" 1193 124 2 0 0 3 [.ref 585,(.bool true),iv 181 0,.ref 586,.none,.ref 587,.ref 588,.ref 589] 1202
def o591:Q:=fun _=>fu "_law_draw" 37 (sv "law_nm0009_01" 1124) 590
def o592:Q:=fun _=>tu []
noncomputable def o593:Q:=fun _=>⟨.none,none,(.fields [].toArray),[].toArray⟩
def o594:Q:=fun _=>tu [sv "found" 1208,sv "form" 1209,sv "opcode" 1210,sv "text" 1211,sv "parts" 1212,sv "at" 1213]
def o595:Q:=fun _=>tu []
def o596:Q:=fun _=>⟨.none,none,(.func ⟨(Str.ofString "_law_rows"),(Str.ofString "_law_rows"),fdP 38,.stmts (fdB 38),fdS 38,0,[],.none,.none,.none,.none,none,.none,.none,0⟩),[].toArray⟩
def o597:Q:=fun _=>co "_law_rows" 1205 137 0 0 0 3 [.ref 592,(.bool true),iv 181 0,.ref 593,.none,.ref 594,.ref 595,.ref 596] 1214
def o598:Q:=fun _=>fu "_law_rows" 38 (sv "law_nm0009_01" 1124) 597
def o599:Q:=fun _=>tu []
noncomputable def o600:Q:=fun _=>⟨.none,none,(.fields [].toArray),[].toArray⟩
def o601:Q:=fun _=>tu [sv "form" 1220,sv "picture" 1221,sv "seen" 1222,sv "found" 1223,sv "sign" 1224,sv "at" 1225,sv "is_turned" 1226]
def o602:Q:=fun _=>tu []
def o603:Q:=fun _=>⟨.none,none,(.func ⟨(Str.ofString "_law_bits"),(Str.ofString "_law_bits"),fdP 39,.stmts (fdB 39),fdS 39,0,[],.none,.none,.none,.none,none,.none,.none,0⟩),[].toArray⟩
def o604:Q:=fun _=>co "_law_bits" 1217 144 1 0 0 3 [.ref 599,(.bool true),iv 181 0,.ref 600,.none,.ref 601,.ref 602,.ref 603] 1227
def o605:Q:=fun _=>fu "_law_bits" 39 (sv "law_nm0009_01" 1124) 604
def o606:Q:=fun _=>tu []
noncomputable def o607:Q:=fun _=>⟨.none,none,(.fields [].toArray),[].toArray⟩
def o608:Q:=fun _=>tu [sv "drawing" 1233,sv "known" 1234,sv "found" 1235,sv "sign" 1236,sv "place" 1237]
def o609:Q:=fun _=>tu []
def o610:Q:=fun _=>⟨.none,none,(.func ⟨(Str.ofString "_law_laid"),(Str.ofString "_law_laid"),fdP 40,.stmts (fdB 40),fdS 40,0,[],.none,.none,.none,.none,none,.none,.none,0⟩),[].toArray⟩
def o611:Q:=fun _=>co "_law_laid" 1230 152 2 0 0 3 [.ref 606,(.bool true),iv 181 0,.ref 607,.none,.ref 608,.ref 609,.ref 610] 1238
def o612:Q:=fun _=>fu "_law_laid" 40 (sv "law_nm0009_01" 1124) 611
def o613:Q:=fun _=>tu []
noncomputable def o614:Q:=fun _=>⟨.none,none,(.fields [].toArray),[].toArray⟩
def o615:Q:=fun _=>tu [sv "form" 1244,sv "drawing" 1245,sv "number" 1246,sv "known" 1247,sv "rest" 1248,sv "sign" 1249,sv "place" 1250]
def o616:Q:=fun _=>tu []
def o617:Q:=fun _=>⟨.none,none,(.func ⟨(Str.ofString "_law_read"),(Str.ofString "_law_read"),fdP 41,.stmts (fdB 41),fdS 41,0,[],.none,.none,.none,.none,none,.none,.none,0⟩),[].toArray⟩
def o618:Q:=fun _=>co "_law_read" 1241 157 3 0 0 3 [.ref 613,(.bool true),iv 181 0,.ref 614,.none,.ref 615,.ref 616,.ref 617] 1251
def o619:Q:=fun _=>fu "_law_read" 41 (sv "law_nm0009_01" 1124) 618
def o620:Q:=fun _=>tu []
noncomputable def o621:Q:=fun _=>⟨.none,none,(.fields [].toArray),[].toArray⟩
def o622:Q:=fun _=>tu [sv "form" 1257,sv "known" 1258,sv "found" 1259,sv "letter" 1260,sv "key" 1261]
def o623:Q:=fun _=>tu []
def o624:Q:=fun _=>⟨.none,none,(.func ⟨(Str.ofString "_law_fields"),(Str.ofString "_law_fields"),fdP 42,.stmts (fdB 42),fdS 42,0,[],.none,.none,.none,.none,none,.none,.none,0⟩),[].toArray⟩
def o625:Q:=fun _=>co "_law_fields" 1254 165 2 0 0 3 [.ref 620,(.bool true),iv 181 0,.ref 621,.none,.ref 622,.ref 623,.ref 624] 1262
def o626:Q:=fun _=>fu "_law_fields" 42 (sv "law_nm0009_01" 1124) 625
def o627:Q:=fun _=>tu []
noncomputable def o628:Q:=fun _=>⟨.none,none,(.fields [].toArray),[].toArray⟩
def o629:Q:=fun _=>tu [sv "fields" 1268,sv "key" 1269,sv "value" 1270,sv "found" 1271,sv "name" 1272]
def o630:Q:=fun _=>tu []
def o631:Q:=fun _=>⟨.none,none,(.func ⟨(Str.ofString "_law_with"),(Str.ofString "_law_with"),fdP 43,.stmts (fdB 43),fdS 43,0,[],.none,.none,.none,.none,none,.none,.none,0⟩),[].toArray⟩
def o632:Q:=fun _=>co "_law_with" 1265 171 3 0 0 3 [.ref 627,(.bool true),iv 181 0,.ref 628,.none,.ref 629,.ref 630,.ref 631] 1273
def o633:Q:=fun _=>fu "_law_with" 43 (sv "law_nm0009_01" 1124) 632
def o634:Q:=fun _=>tu []
noncomputable def o635:Q:=fun _=>⟨.none,none,(.fields [].toArray),[].toArray⟩
def o636:Q:=fun _=>tu [sv "name" 1279,sv "fields" 1280]
def o637:Q:=fun _=>tu []
def o638:Q:=fun _=>⟨.none,none,(.func ⟨(Str.ofString "_law_is_refused"),(Str.ofString "_law_is_refused"),fdP 44,.stmts (fdB 44),fdS 44,0,[],.none,.none,.none,.none,none,.none,.none,0⟩),[].toArray⟩
def o639:Q:=fun _=>co "_law_is_refused" 1276 179 2 0 0 3 [.ref 634,(.bool true),iv 181 0,.ref 635,.none,.ref 636,.ref 637,.ref 638] 1281
def o640:Q:=fun _=>fu "_law_is_refused" 44 (sv "law_nm0009_01" 1124) 639
def o641:Q:=fun _=>tu []
noncomputable def o642:Q:=fun _=>⟨.none,none,(.fields [].toArray),[].toArray⟩
def o643:Q:=fun _=>⟨.none,none,(.func ⟨(Str.ofString "_law_is_number_right"),(Str.ofString "_law_is_number_right"),fdP 45,.stmts (fdB 45),fdS 45,0,[],.none,.none,.none,.none,none,.none,.none,0⟩),[].toArray⟩
def o644:Q:=fun _=>co "_law_is_number_right" 1284 185 5 0 0 3 [.ref 641,(.bool true),iv 181 0,.ref 642,.none,.none,.none,.ref 643] 1287
def o645:Q:=fun _=>fu "_law_is_number_right" 45 (sv "law_nm0009_01" 1124) 644
def o646:Q:=fun _=>tu []
noncomputable def o647:Q:=fun _=>⟨.none,none,(.fields [].toArray),[].toArray⟩
def o648:Q:=fun _=>tu [sv "well" 1293,sv "form" 1294,sv "drawing" 1295,sv "rows" 1296,sv "which" 1297,sv "rd" 1298,sv "one" 1299,sv "two" 1300,sv "value" 1301,sv "name" 1302,sv "fixed" 1303,sv "count" 1304,sv "pace" 1305,sv "known" 1306,sv "fields" 1307,sv "number" 1308,sv "key" 1309,sv "ill" 1310,sv "wrong" 1311]
def o649:Q:=fun _=>tu []
def o650:Q:=fun _=>⟨.none,none,(.func ⟨(Str.ofString "_law_is_form_right"),(Str.ofString "_law_is_form_right"),fdP 46,.stmts (fdB 46),fdS 46,0,[],.none,.none,.none,.none,none,.none,.none,0⟩),[].toArray⟩
def o651:Q:=fun _=>co "_law_is_form_right" 1290 205 4 0 0 3 [.ref 646,(.bool true),iv 181 0,.ref 647,.none,.ref 648,.ref 649,.ref 650] 1312
def o652:Q:=fun _=>fu "_law_is_form_right" 46 (sv "law_nm0009_01" 1124) 651
def o653:Q:=fun _=>tu []
noncomputable def o654:Q:=fun _=>⟨.none,none,(.fields [].toArray),[].toArray⟩
def o655:Q:=fun _=>⟨.none,none,(.func ⟨(Str.ofString "_law_by_opcode"),(Str.ofString "_law_by_opcode"),fdP 47,.stmts (fdB 47),fdS 47,0,[],.none,.none,.none,.none,none,.none,.none,0⟩),[].toArray⟩
def o656:Q:=fun _=>co "_law_by_opcode" 1315 223 1 0 0 3 [.ref 653,(.bool true),iv 181 0,.ref 654,.none,.none,.none,.ref 655] 1318
def o657:Q:=fun _=>fu "_law_by_opcode" 47 (sv "law_nm0009_01" 1124) 656
def o658:Q:=fun _=>tu []
noncomputable def o659:Q:=fun _=>⟨.none,none,(.fields [].toArray),[].toArray⟩
def o660:Q:=fun _=>tu [sv "known_rows" 1324,sv "pictures" 1325,sv "number" 1326,sv "first" 1327,sv "turn" 1328,sv "cell" 1329,sv "seen" 1330,sv "due" 1331,sv "name" 1332,sv "form" 1333,sv "mask" 1334,sv "fixed" 1335]
def o661:Q:=fun _=>tu []
def o662:Q:=fun _=>⟨.none,none,(.func ⟨(Str.ofString "_law_is_turned_right"),(Str.ofString "_law_is_turned_right"),fdP 48,.stmts (fdB 48),fdS 48,0,[],.none,.none,.none,.none,none,.none,.none,0⟩),[].toArray⟩
def o663:Q:=fun _=>co "_law_is_turned_right" 1321 231 4 0 0 3 [.ref 658,(.bool true),iv 181 0,.ref 659,.none,.ref 660,.ref 661,.ref 662] 1336
def o664:Q:=fun _=>fu "_law_is_turned_right" 48 (sv "law_nm0009_01" 1124) 663
def o665:Q:=fun _=>tu []
noncomputable def o666:Q:=fun _=>⟨.none,none,(.fields [].toArray),[].toArray⟩
def o667:Q:=fun _=>tu [sv "value" 1342,sv "width" 1343,sv "cut" 1344,sv "low" 1345,sv "high" 1346]
def o668:Q:=fun _=>tu []
def o669:Q:=fun _=>⟨.none,none,(.func ⟨(Str.ofString "_law_are_parts_right"),(Str.ofString "_law_are_parts_right"),fdP 49,.stmts (fdB 49),fdS 49,0,[],.none,.none,.none,.none,none,.none,.none,0⟩),[].toArray⟩
def o670:Q:=fun _=>co "_law_are_parts_right" 1339 241 2 0 0 3 [.ref 665,(.bool true),iv 181 0,.ref 666,.none,.ref 667,.ref 668,.ref 669] 1347
def o671:Q:=fun _=>fu "_law_are_parts_right" 49 (sv "law_nm0009_01" 1124) 670
def o672:Q:=fun _=>tu []
noncomputable def o673:Q:=fun _=>⟨.none,none,(.fields [].toArray),[].toArray⟩
def o674:Q:=fun _=>⟨.none,none,(.func ⟨(Str.ofString "_law_are_registers_right"),(Str.ofString "_law_are_registers_right"),fdP 50,.stmts (fdB 50),fdS 50,0,[],.none,.none,.none,.none,none,.none,.none,0⟩),[].toArray⟩
def o675:Q:=fun _=>co "_law_are_registers_right" 1350 246 1 0 0 3 [.ref 672,(.bool true),iv 181 0,.ref 673,.none,.none,.none,.ref 674] 1353
def o676:Q:=fun _=>fu "_law_are_registers_right" 50 (sv "law_nm0009_01" 1124) 675
def o677:Q:=fun _=>tu []
noncomputable def o678:Q:=fun _=>⟨.none,none,(.fields [].toArray),[].toArray⟩
def o679:Q:=fun _=>⟨.none,none,(.func ⟨(Str.ofString "law"),(Str.ofString "law"),fdP 51,.stmts (fdB 51),fdS 51,0,[],.none,.none,.none,.none,none,.none,.none,0⟩),[].toArray⟩
def o680:Q:=fun _=>co "law" 1356 252 1 0 0 3 [.ref 677,(.bool true),iv 181 0,.ref 678,.none,.none,.none,.ref 679] 1359
def o681:Q:=fun _=>fu "law" 51 (sv "law_nm0009_01" 1124) 680
def q3 (P:Params) (x:Value) (j:Nat):Obj:=ob "dict" (dc (ke P "__name__" 165 x :: (e3 P).take j) (j+1))
def q12 (m:Nat):Obj:=⟨.none,none,(.fields (f12.take m).toArray),[].toArray⟩
def oL0 (P:Params):List Obj:=[o15 P,ob "builtin_function_or_method" (fs [(.builtin "type.__prepare__"),(.type "type")]),ob "dict" (dc [ke P "__module__" 196 (sv "corecc.errors" 187),ke P "__qualname__" 198 (sv "AssemblyFault" 197),ke P "__firstlineno__" 200 (iv 2 199),ke P "__init__" 209 (.ref 28),ke P "__static_attributes__" 212 (.ref 29)] 5),tu [],⟨.none,none,(.fields [iv 4 0,iv 4 0,.ref 27].toArray),[].toArray⟩,co "AssemblyFault" 191 2 0 0 0 0 [.ref 18,(.bool false),iv 181 0,.ref 19,.none,.none,.none,.none] 194,⟨(.type "frame"),none,.plain,[(some (.ref 20)),(some (.ref 3)),(some (.ref 17)),none,(some (sv "corecc.errors" 187)),none,(some (.ref 0))].toArray⟩,o22 P,o23 P,o24 P,o25 P,o26 P,o27 P,o28 P,o29 P,o30 P,o31 P,o32 P,ob "super" (fs [.ref 31,.ref 31,.ref 31]),ob "builtin_function_or_method" (fs [(.builtin "object.__init_subclass__"),.ref 31]),o35 P,o36 P,o37 P,o38 P,o39 P,o40 P,o41 P,o42 P,o43 P,o44 P,o45 P,o46 P,o47 P,o48 P,o49 P,o50 P,o51 P,o52 P,o53 P,ob "dict" (dc [ke P "sw" 337 (.ref 55),ke P "addi" 341 (.ref 56),ke P "slti" 345 (.ref 57),ke P "sltiu" 349 (.ref 58),ke P "xori" 353 (.ref 59),ke P "ori" 357 (.ref 60),ke P "andi" 361 (.ref 61),ke P "slli" 365 (.ref 62),ke P "srli" 369 (.ref 63),ke P "srai" 373 (.ref 64),ke P "add" 377 (.ref 65),ke P "sub" 381 (.ref 66),ke P "sll" 385 (.ref 67),ke P "slt" 389 (.ref 68),ke P "sltu" 393 (.ref 69),ke P "xor" 397 (.ref 70),ke P "srl" 401 (.ref 71)] 17),o55 P,o56 P,o57 P,o58 P,o59 P,o60 P,o61 P,o62 P,o63 P,o64 P,o65 P,o66 P,o67 P,o68 P,o69 P,o70 P,o71 P,ob "dict" (dc [ke P "sra" 405 (.ref 73),ke P "or" 408 (.ref 74),ke P "and" 411 (.ref 75),ke P "mul" 414 (.ref 76),ke P "mulh" 417 (.ref 77),ke P "mulhsu" 420 (.ref 78),ke P "mulhu" 423 (.ref 79),ke P "div" 426 (.ref 80),ke P "divu" 429 (.ref 81),ke P "rem" 432 (.ref 82),ke P "remu" 435 (.ref 83),ke P "fence" 438 (.ref 84),ke P "ecall" 441 (.ref 85),ke P "ebreak" 444 (.ref 86)] 14),o73 P,o74 P,o75 P,o76 P]
def oL1 (P:Params):List Obj:=[o77 P,o78 P,o79 P,o80 P,o81 P,o82 P,o83 P,o84 P,o85 P,o86 P,o87 P,o88 P,o89 P,o90 P,o91 P,o92 P,o93 P,o94 P,o95 P,o96 P,o97 P,o98 P,o99 P,o100 P,o101 P,o102 P,o103 P,o104 P,o105 P,o106 P,o107 P,o108 P,o109 P,o110 P,o111 P,o112 P,o113 P,o114 P,o115 P,o116 P,o117 P,tu [],⟨.none,none,(.fields [].toArray),[].toArray⟩,tu [sv "found" 550,sv "number" 551,sv "name" 552],tu [],⟨.none,none,(.func ⟨(Str.ofString "numbers_by_name"),(Str.ofString "numbers_by_name"),fdP 14,.stmts (fdB 14),fdS 14,0,[],.none,.none,.none,.none,none,.none,.none,0⟩),[].toArray⟩,co "numbers_by_name" 547 20 0 0 0 3 [.ref 118,(.bool true),iv 181 0,.ref 119,.none,.ref 120,.ref 121,.ref 122] 553,fu "numbers_by_name" 14 (sv "corecc.rv32" 220) 123,ob "frame" (dc [ke P "found" 559 (.ref 126),ke P "number" 561 (iv 31 808),ke P "name" 562 (sv "t6" 253)] 3),o126 P,ob "list_iterator" (fs [.none,iv 32 0]),ob "enumerate" (fs [.none,(.bool false),.ref 127,iv 32 0,.none,sv "t6" 253]),tu [iv 0 560,sv "zero" 222],ti,tu [],si 131,tu [iv 1 568,sv "ra" 223],ti,tu [],si 135,tu [iv 2 576,sv "sp" 224],ti]
def oL2 (P:Params):List Obj:=[tu [],si 139,tu [iv 3 584,sv "gp" 225],ti,tu [],si 143,tu [iv 4 592,sv "tp" 226],ti,tu [],si 147,tu [iv 5 600,sv "t0" 227],ti,tu [],si 151,tu [iv 6 608,sv "t1" 228],ti,tu [],si 155,tu [iv 7 616,sv "t2" 229],ti,tu [],si 159,tu [iv 8 624,sv "s0" 230],ti,tu [],si 163,tu [iv 9 632,sv "s1" 231],ti,tu [],si 167,tu [iv 10 640,sv "a0" 232],ti,tu [],si 171,tu [iv 11 648,sv "a1" 233],ti,tu [],si 175,tu [iv 12 656,sv "a2" 234],ti,tu [],si 179,tu [iv 13 664,sv "a3" 235],ti,tu [],si 183,tu [iv 14 672,sv "a4" 236],ti,tu [],si 187,tu [iv 15 680,sv "a5" 237],ti,tu [],si 191,tu [iv 16 688,sv "a6" 238],ti,tu [],si 195,tu [iv 17 696,sv "a7" 239],ti,tu [],si 199]
def oL3 (P:Params):List Obj:=[tu [iv 18 704,sv "s2" 240],ti,tu [],si 203,tu [iv 19 712,sv "s3" 241],ti,tu [],si 207,tu [iv 20 720,sv "s4" 242],ti,tu [],si 211,tu [iv 21 728,sv "s5" 243],ti,tu [],si 215,tu [iv 22 736,sv "s6" 244],ti,tu [],si 219,tu [iv 23 744,sv "s7" 245],ti,tu [],si 223,tu [iv 24 752,sv "s8" 246],ti,tu [],si 227,tu [iv 25 760,sv "s9" 247],ti,tu [],si 231,tu [iv 26 768,sv "s10" 248],ti,tu [],si 235,tu [iv 27 776,sv "s11" 249],ti,tu [],si 239,tu [iv 28 784,sv "t3" 250],ti,tu [],si 243,tu [iv 29 792,sv "t4" 251],ti,tu [],si 247,tu [iv 30 800,sv "t5" 252],ti,tu [],si 251,tu [iv 31 808,sv "t6" 253],ti,tu [],si 255,tu [],si 257,o259 P,o260 P,o261 P,o262 P]
def oL4 (P:Params):List Obj:=[o263 P,o264 P,o265 P,o266 P,o267 P,o268 P,o269 P,o270 P,o271 P,o272 P,o273 P,o274 P,o275 P,o276 P,o277 P,o278 P,o279 P,o280 P,o281 P,o282 P,o283 P,o284 P,o285 P,o286 P,o287 P,o288 P,o289 P,o290 P,o291 P,o292 P,o293 P,o294 P,o295 P,o296 P,o297 P,o298 P,o299 P,o300 P,o301 P,o302 P,o303 P,o304 P,o305 P,o306 P,o307 P,o308 P,o309 P,o310 P,o311 P,o312 P,o313 P,o314 P,o315 P,o316 P,o317 P,o318 P,o319 P,o320 P,o321 P,o322 P,o323 P,o324 P]
def oL5 (P:Params):List Obj:=[o325 P,o326 P,o327 P,o328 P,tu [],⟨.none,none,(.fields [].toArray),[].toArray⟩,⟨.none,none,(.func ⟨(Str.ofString "names_by_base"),(Str.ofString "names_by_base"),fdP 26,.stmts (fdB 26),fdS 26,0,[],.none,.none,.none,.none,none,.none,.none,0⟩),[].toArray⟩,co "names_by_base" 904 87 0 0 0 3 [.ref 329,(.bool true),iv 181 0,.ref 330,.none,.none,.none,.ref 331] 907,fu "names_by_base" 26 (sv "corecc.rv32" 220) 332,ob "frame" (dc [] 0),ob "dict_items" (fs [.ref 36]),ob "dict_itemiterator" (fs [.none,(.bool false),.none,iv 48 0,iv 48 0,iv 48 0,sv "ebreak" 444,.ref 86]),o337 P,ob "dict" (dc [] 4),tu [sv "lui" 269,.ref 37],ti,tu [],si 341,tu [sv "auipc" 273,.ref 38],ti,tu [],si 345,tu [sv "jal" 277,.ref 39],ti,tu [],si 349,tu [sv "jalr" 281,.ref 40],ti,tu [],si 353,tu [sv "beq" 285,.ref 41],ti,tu [],si 357,tu [sv "bne" 289,.ref 42],ti,tu [],si 361,tu [sv "blt" 293,.ref 43],ti,tu [],si 365,tu [sv "bge" 297,.ref 44],ti,tu [],si 369,tu [sv "bltu" 301,.ref 45],ti,tu [],si 373,tu [sv "bgeu" 305,.ref 46],ti,tu [],si 377,tu [sv "lb" 309,.ref 47],ti,tu [],si 381,tu [sv "lh" 313,.ref 48],ti,tu [],si 385]
def oL6 (P:Params):List Obj:=[tu [sv "lw" 317,.ref 49],ti,tu [],si 389,tu [sv "lbu" 321,.ref 50],ti,tu [],si 393,tu [sv "lhu" 325,.ref 51],ti,tu [],si 397,tu [sv "sb" 329,.ref 52],ti,tu [],si 401,tu [sv "sh" 333,.ref 53],ti,tu [],si 405,tu [sv "sw" 337,.ref 55],ti,tu [],si 409,tu [sv "addi" 341,.ref 56],ti,tu [],si 413,tu [sv "slti" 345,.ref 57],ti,tu [],si 417,tu [sv "sltiu" 349,.ref 58],ti,tu [],si 421,tu [sv "xori" 353,.ref 59],ti,tu [],si 425,tu [sv "ori" 357,.ref 60],ti,tu [],si 429,tu [sv "andi" 361,.ref 61],ti,tu [],si 433,tu [sv "slli" 365,.ref 62],ti,tu [],si 437,tu [sv "srli" 369,.ref 63],ti,tu [],si 441,tu [sv "srai" 373,.ref 64],ti,tu [],si 445,tu [sv "add" 377,.ref 65],ti]
def oL7 (P:Params):List Obj:=[tu [],si 449,tu [sv "sub" 381,.ref 66],ti,tu [],si 453,tu [sv "sll" 385,.ref 67],ti,tu [],si 457,tu [sv "slt" 389,.ref 68],ti,tu [],si 461,tu [sv "sltu" 393,.ref 69],ti,tu [],si 465,tu [sv "xor" 397,.ref 70],ti,tu [],si 469,tu [sv "srl" 401,.ref 71],ti,tu [],si 473,tu [sv "sra" 405,.ref 73],ti,tu [],si 477,tu [sv "or" 408,.ref 74],ti,tu [],si 481,tu [sv "and" 411,.ref 75],ti,tu [],si 485,tu [sv "mul" 414,.ref 76],ti,tu [],si 489,tu [sv "mulh" 417,.ref 77],ti,tu [],si 493,tu [sv "mulhsu" 420,.ref 78],ti,tu [],si 497,tu [sv "mulhu" 423,.ref 79],ti,tu [],si 501,tu [sv "div" 426,.ref 80],ti,tu [],si 505,tu [sv "divu" 429,.ref 81],ti,tu [],si 509]
def oL8 (P:Params):List Obj:=[tu [sv "rem" 432,.ref 82],ti,tu [],si 513,tu [sv "remu" 435,.ref 83],ti,tu [],si 517,tu [sv "fence" 438,.ref 84],ti,tu [],si 521,tu [sv "ecall" 441,.ref 85],ti,tu [],si 525,tu [sv "ebreak" 444,.ref 86],ti,tu [],si 529,tu [],si 531,o533 P,o534 P,o535 P,o536 P,o537 P,o538 P,o539 P,o540 P,o541 P,o542 P,o543 P,o544 P,o545 P,o546 P,o547 P,o548 P,o549 P,o550 P,o551 P,o552 P,o553 P,o554 P,o555 P,o556 P,o557 P,o558 P,o559 P,o560 P,o561 P,o562 P,o563 P,o564 P,o565 P,o566 P,o567 P,o568 P,o569 P,o570 P,o571 P,o572 P]
def oL9 (P:Params):List Obj:=[o573 P,o574 P,o575 P,o576 P,o577 P,o578 P,o579 P,o580 P,o581 P,o582 P,o583 P,o584 P,o585 P,o586 P,o587 P,o588 P,o589 P,o590 P,o591 P,o592 P,o593 P,o594 P,o595 P,o596 P,o597 P,o598 P,o599 P,o600 P,o601 P,o602 P,o603 P,o604 P,o605 P,o606 P,o607 P,o608 P,o609 P,o610 P,o611 P,o612 P,o613 P,o614 P,o615 P,o616 P,o617 P,o618 P,o619 P,o620 P,o621 P,o622 P,o623 P,o624 P,o625 P,o626 P,o627 P,o628 P,o629 P,o630 P,o631 P,o632 P,o633 P,o634 P]
def oL10 (P:Params):List Obj:=[o635 P,o636 P,o637 P,o638 P,o639 P,o640 P,o641 P,o642 P,o643 P,o644 P,o645 P,o646 P,o647 P,o648 P,o649 P,o650 P,o651 P,o652 P,o653 P,o654 P,o655 P,o656 P,o657 P,o658 P,o659 P,o660 P,o661 P,o662 P,o663 P,o664 P,o665 P,o666 P,o667 P,o668 P,o669 P,o670 P,o671 P,o672 P,o673 P,o674 P,o675 P,o676 P,o677 P,o678 P,o679 P,o680 P,o681 P]
def o11b (P:Params):Obj:=o11 P
def afX (P:Params) (a b c:Obj):List Obj:=[PySem.W.boot_o_0 P,PySem.W.boot_o_1 P,a,b,PySem.W.boot_o_4 P,PySem.W.boot_o_5 P,PySem.W.boot_o_6 P,PySem.W.boot_o_7 P,PySem.W.boot_o_8 P,PySem.W.boot_o_9 P,PySem.W.boot_o_10 P,o11 P,c,o13 P,o14 P]
def ajP (P:Params):List Obj:=oL0 P++(oL1 P++(oL2 P++(oL3 P++(oL4 P++(oL5 P++(oL6 P++(oL7 P++(oL8 P++(oL9 P++(oL10 P))))))))))
def ajQ (P:Params):List Obj:=afX P (o2 P) (o3 P) (o12 P)++ajP P
noncomputable def ev:Bool→List Obj→List Obj
 | _,[]=>[]
 | true,o :: l=>o :: ev false l
 | false,_ :: l=>ev true l
noncomputable def bt:Nat→List Obj→BT
 | _,[]=>.nil
 | 0,_=>.nil
 | f+1,o :: l=>.node o (bt f (ev true l)) (bt f (ev false l))
def T4 (P:Params):BT:=bt 20 (afX P (PySem.W.boot_o_2 P) (PySem.W.boot_o_3 P) ⟨.none,none,.fields #[],#[]⟩)
def Tk (P:Params) (x:Value) (j m n:Nat):BT:=bt 20 (afX P (o2 P) (q3 P x j) (q12 m)++(ajP P).take (n - 15))
def T52 (P:Params):BT:=bt 20 (ajQ P)
def envT:Env:={ scope:=pw.main.scope,locals:=PySem.mainNs,globals:=PySem.mainNs,cells:=[],code:=PySem.Value.ref 13,frame:=some 14 }
abbrev S4 (w:World) (os:OsState):SharedT:={ tree:=T4 w.params,n:=15,life:={ },gens:={ toList:=[] },drawn:={ },toks:=187,os:=os }
abbrev Sk (w:World) (x:Value) (j m n t:Nat) (os:OsState):SharedT:={ tree:=Tk w.params x j m n,n:=n,life:={ },gens:={ toList:=[] },drawn:={ },toks:=t,os:=os }
abbrev S52 (w:World) (os:OsState):SharedT:={ tree:=T52 w.params,n:=682,life:={ },gens:={ toList:=[] },drawn:={ },toks:=1362,os:=os }
abbrev cE:Code:=Code.body pw.main.body envT
noncomputable abbrev B1:List Frame:=[topFrame { line:=0,col:=0,endLine:=0,endCol:=0 }]
abbrev stK (a k:Nat):List Stmt:=(pw.main.body.drop a).take k
abbrev Seg (w:World) (N a k:Nat) (p q:Pos) (S T:OsState→SharedT):Prop:=∀ os,segRunT treeTable pw w 11 (some (Value.ref 6)) 1 N (S os) (piecesOf (stK a k) envT cE p B1)=some (.next,T os,cE,q)
abbrev U0 (w:World):Prop:=Seg w 400 0 11 ⟨0,0,0,0⟩ ⟨16,0,16,6⟩ (S4 w) (Sk w (sv "corecc.rv32" 220) 17 3 36 269)
abbrev U1 (w:World):Prop:=Seg w 1500 11 4 ⟨16,0,16,6⟩ ⟨20,0,25,16⟩ (Sk w (sv "corecc.rv32" 220) 17 3 36 269) (Sk w (sv "corecc.rv32" 220) 21 6 125 556)
abbrev U2 (w:World):Prop:=Seg w 6000 15 1 ⟨20,0,25,16⟩ ⟨26,0,26,16⟩ (Sk w (sv "corecc.rv32" 220) 21 6 125 556) (Sk w (sv "corecc.rv32" 220) 22 6 259 817)
abbrev U3 (w:World):Prop:=Seg w 400 16 11 ⟨26,0,26,16⟩ ⟨87,0,88,63⟩ (Sk w (sv "corecc.rv32" 220) 22 6 259 817) (Sk w (sv "corecc.rv32" 220) 33 39 334 910)
abbrev U4 (w:World):Prop:=Seg w 6000 27 1 ⟨87,0,88,63⟩ ⟨89,0,89,13⟩ (Sk w (sv "corecc.rv32" 220) 33 39 334 910) (Sk w (sv "corecc.rv32" 220) 34 39 533 1103)
abbrev U5 (w:World):Prop:=Seg w 150 28 4 ⟨89,0,89,13⟩ ⟨113,0,114,380⟩ (Sk w (sv "corecc.rv32" 220) 34 39 533 1103) (Sk w (sv "law_nm0009_01" 1124) 37 48 554 1132)
abbrev U6 (w:World):Prop:=Seg w 100 32 1 ⟨113,0,114,380⟩ ⟨115,0,115,10⟩ (Sk w (sv "law_nm0009_01" 1124) 37 48 554 1132) (Sk w (sv "law_nm0009_01" 1124) 38 48 557 1169)
abbrev U7 (w:World):Prop:=Seg w 700 33 19 ⟨115,0,115,10⟩ ⟨252,0,269,95⟩ (Sk w (sv "law_nm0009_01" 1124) 38 48 557 1169) (S52 w)
end
end MineH
end
section
namespace MineH
section
theorem u0 (w:World):U0 w:=by
 intro os
 rw [PySem.W.Fast.te10110043849684766642,PySem.W.Fast.te14364793385576792824]
 kernel_rfl
theorem u1f (w:World):U1 (w.withFollow "special-get-raises" false):=by
 intro os
 rw [PySem.W.Fast.te10110043849684766642,PySem.W.Fast.te14364793385576792824]
 kernel_rfl
theorem u1t (w:World):U1 (w.withFollow "special-get-raises" true):=by
 intro os
 rw [PySem.W.Fast.te10110043849684766642,PySem.W.Fast.te14364793385576792824]
 kernel_rfl
theorem u1 (w:World):U1 w:=byRow2 "special-get-raises" (P:=U1) u1f u1t w
theorem u2f (w:World):U2 (w.withFollow "special-get-raises" false):=by
 intro os
 rw [PySem.W.Fast.te10110043849684766642,PySem.W.Fast.te14364793385576792824]
 kernel_rfl
theorem u2t (w:World):U2 (w.withFollow "special-get-raises" true):=by
 intro os
 rw [PySem.W.Fast.te10110043849684766642,PySem.W.Fast.te14364793385576792824]
 kernel_rfl
theorem u2 (w:World):U2 w:=byRow2 "special-get-raises" (P:=U2) u2f u2t w
theorem u3 (w:World):U3 w:=by
 intro os
 rw [PySem.W.Fast.te10110043849684766642,PySem.W.Fast.te14364793385576792824]
 kernel_rfl
end
end MineH
end
section
namespace MineH
section
theorem u4ff (w:World):U4 ((w.withFollow "comprehension-iter-twice" false).withFollow "special-get-raises" false):=by
 intro os
 rw [PySem.W.Fast.te10110043849684766642,PySem.W.Fast.te14364793385576792824]
 kernel_rfl
theorem u4ft (w:World):U4 ((w.withFollow "comprehension-iter-twice" true).withFollow "special-get-raises" false):=by
 intro os
 rw [PySem.W.Fast.te10110043849684766642,PySem.W.Fast.te14364793385576792824]
 kernel_rfl
theorem u4f (w:World):U4 (w.withFollow "special-get-raises" false):=byRow2 "comprehension-iter-twice" (P:=fun w=>U4 (w.withFollow "special-get-raises" false)) u4ff u4ft w
theorem u4tf (w:World):U4 ((w.withFollow "comprehension-iter-twice" false).withFollow "special-get-raises" true):=by
 intro os
 rw [PySem.W.Fast.te10110043849684766642,PySem.W.Fast.te14364793385576792824]
 kernel_rfl
theorem u4tt (w:World):U4 ((w.withFollow "comprehension-iter-twice" true).withFollow "special-get-raises" true):=by
 intro os
 rw [PySem.W.Fast.te10110043849684766642,PySem.W.Fast.te14364793385576792824]
 kernel_rfl
theorem u4t (w:World):U4 (w.withFollow "special-get-raises" true):=byRow2 "comprehension-iter-twice" (P:=fun w=>U4 (w.withFollow "special-get-raises" true)) u4tf u4tt w
theorem u4 (w:World):U4 w:=byRow2 "special-get-raises" (P:=U4) u4f u4t w
theorem u5 (w:World):U5 w:=by
 intro os
 rw [PySem.W.Fast.te10110043849684766642,PySem.W.Fast.te14364793385576792824]
 kernel_rfl
theorem u6f (w:World):U6 (w.withFollow "special-get-raises" false):=by
 intro os
 rw [PySem.W.Fast.te10110043849684766642,PySem.W.Fast.te14364793385576792824]
 kernel_rfl
theorem u6t (w:World):U6 (w.withFollow "special-get-raises" true):=by
 intro os
 rw [PySem.W.Fast.te10110043849684766642,PySem.W.Fast.te14364793385576792824]
 kernel_rfl
theorem u6 (w:World):U6 w:=byRow2 "special-get-raises" (P:=U6) u6f u6t w
theorem u7 (w:World):U7 w:=by
 intro os
 rw [PySem.W.Fast.te10110043849684766642,PySem.W.Fast.te14364793385576792824]
 kernel_rfl
end
end MineH
end
section
namespace MineH
section
def Kx (P:Params):Frag:=[(0,PySem.W.boot_o_0 P),(1,PySem.W.boot_o_1 P),(2,o2 P),(3,o3 P),(4,PySem.W.boot_o_4 P),(5,PySem.W.boot_o_5 P),(6,PySem.W.boot_o_6 P),(7,PySem.W.boot_o_7 P),(8,PySem.W.boot_o_8 P),(9,PySem.W.boot_o_9 P),(10,PySem.W.boot_o_10 P),(11,o11 P),(12,o12 P),(13,o13 P),(14,o14 P),(15,o15 P),(22,o22 P),(23,o23 P),(24,o24 P),(25,o25 P),(26,o26 P),(27,o27 P),(28,o28 P),(29,o29 P),(30,o30 P),(31,o31 P),(32,o32 P),(35,o35 P),(36,o36 P),(37,o37 P),(38,o38 P),(39,o39 P),(40,o40 P),(41,o41 P),(42,o42 P),(43,o43 P),(44,o44 P),(45,o45 P),(46,o46 P),(47,o47 P),(48,o48 P),(49,o49 P),(50,o50 P),(51,o51 P),(52,o52 P),(53,o53 P),(55,o55 P),(56,o56 P),(57,o57 P),(58,o58 P),(59,o59 P),(60,o60 P),(61,o61 P),(62,o62 P),(63,o63 P),(64,o64 P),(65,o65 P),(66,o66 P),(67,o67 P),(68,o68 P),(69,o69 P),(70,o70 P),(71,o71 P),(73,o73 P),(74,o74 P),(75,o75 P),(76,o76 P),(77,o77 P),(78,o78 P),(79,o79 P),(80,o80 P),(81,o81 P),(82,o82 P),(83,o83 P),(84,o84 P),(85,o85 P),(86,o86 P),(87,o87 P),(88,o88 P),(89,o89 P),(90,o90 P),(91,o91 P),(92,o92 P),(93,o93 P),(94,o94 P),(95,o95 P),(96,o96 P),(97,o97 P),(98,o98 P),(99,o99 P),(100,o100 P),(101,o101 P),(102,o102 P),(103,o103 P),(104,o104 P),(105,o105 P),(106,o106 P),(107,o107 P),(108,o108 P),(109,o109 P),(110,o110 P),(111,o111 P),(112,o112 P),(113,o113 P),(114,o114 P),(115,o115 P),(116,o116 P),(117,o117 P),(126,o126 P),(259,o259 P),(260,o260 P),(261,o261 P),(262,o262 P),(263,o263 P),(264,o264 P),(265,o265 P),(266,o266 P),(267,o267 P),(268,o268 P),(269,o269 P),(270,o270 P),(271,o271 P),(272,o272 P),(273,o273 P),(274,o274 P),(275,o275 P),(276,o276 P),(277,o277 P),(278,o278 P),(279,o279 P),(280,o280 P),(281,o281 P),(282,o282 P),(283,o283 P),(284,o284 P),(285,o285 P),(286,o286 P),(287,o287 P),(288,o288 P),(289,o289 P),(290,o290 P),(291,o291 P),(292,o292 P),(293,o293 P),(294,o294 P),(295,o295 P),(296,o296 P),(297,o297 P),(298,o298 P),(299,o299 P),(300,o300 P),(301,o301 P),(302,o302 P),(303,o303 P),(304,o304 P),(305,o305 P),(306,o306 P),(307,o307 P),(308,o308 P),(309,o309 P),(310,o310 P),(311,o311 P),(312,o312 P),(313,o313 P),(314,o314 P),(315,o315 P),(316,o316 P),(317,o317 P),(318,o318 P),(319,o319 P),(320,o320 P),(321,o321 P),(322,o322 P),(323,o323 P),(324,o324 P),(325,o325 P),(326,o326 P),(327,o327 P),(328,o328 P),(337,o337 P),(533,o533 P),(534,o534 P),(535,o535 P),(536,o536 P),(537,o537 P),(538,o538 P),(539,o539 P),(540,o540 P),(541,o541 P),(542,o542 P),(543,o543 P),(544,o544 P),(545,o545 P),(546,o546 P),(547,o547 P),(548,o548 P),(549,o549 P),(550,o550 P),(551,o551 P),(552,o552 P),(553,o553 P),(554,o554 P),(555,o555 P),(556,o556 P),(557,o557 P),(558,o558 P),(559,o559 P),(560,o560 P),(561,o561 P),(562,o562 P),(563,o563 P),(564,o564 P),(565,o565 P),(566,o566 P),(567,o567 P),(568,o568 P),(569,o569 P),(570,o570 P),(571,o571 P),(572,o572 P),(573,o573 P),(574,o574 P),(575,o575 P),(576,o576 P),(577,o577 P),(578,o578 P),(579,o579 P),(580,o580 P),(581,o581 P),(582,o582 P),(583,o583 P),(584,o584 P),(585,o585 P),(586,o586 P),(587,o587 P),(588,o588 P),(589,o589 P),(590,o590 P),(591,o591 P),(592,o592 P),(593,o593 P),(594,o594 P),(595,o595 P),(596,o596 P),(597,o597 P),(598,o598 P),(599,o599 P),(600,o600 P),(601,o601 P),(602,o602 P),(603,o603 P),(604,o604 P),(605,o605 P),(606,o606 P),(607,o607 P),(608,o608 P),(609,o609 P),(610,o610 P),(611,o611 P),(612,o612 P),(613,o613 P),(614,o614 P),(615,o615 P),(616,o616 P),(617,o617 P),(618,o618 P),(619,o619 P),(620,o620 P),(621,o621 P),(622,o622 P),(623,o623 P),(624,o624 P),(625,o625 P),(626,o626 P),(627,o627 P),(628,o628 P),(629,o629 P),(630,o630 P),(631,o631 P),(632,o632 P),(633,o633 P),(634,o634 P),(635,o635 P),(636,o636 P),(637,o637 P),(638,o638 P),(639,o639 P),(640,o640 P),(641,o641 P),(642,o642 P),(643,o643 P),(644,o644 P),(645,o645 P),(646,o646 P),(647,o647 P),(648,o648 P),(649,o649 P),(650,o650 P),(651,o651 P),(652,o652 P),(653,o653 P),(654,o654 P),(655,o655 P),(656,o656 P),(657,o657 P),(658,o658 P),(659,o659 P),(660,o660 P),(661,o661 P),(662,o662 P),(663,o663 P),(664,o664 P),(665,o665 P),(666,o666 P),(667,o667 P),(668,o668 P),(669,o669 P),(670,o670 P),(671,o671 P),(672,o672 P),(673,o673 P),(674,o674 P),(675,o675 P),(676,o676 P),(677,o677 P),(678,o678 P),(679,o679 P),(680,o680 P),(681,o681 P)]
noncomputable def kAs:List Addr:=[0,1,2,3,4,5,6,7,8,9,10,11,12,13,14,15,22,23,24,25,26,27,28,29,30,31,32,35,36,37,38,39,40,41,42,43,44,45,46,47,48,49,50,51,52,53,55,56,57,58,59,60,61,62,63,64,65,66,67,68,69,70,71,73,74,75,76,77,78,79,80,81,82,83,84,85,86,87,88,89,90,91,92,93,94,95,96,97,98,99,100,101,102,103,104,105,106,107,108,109,110,111,112,113,114,115,116,117,126,259,260,261,262,263,264,265,266,267,268,269,270,271,272,273,274,275,276,277,278,279,280,281,282,283,284,285,286,287,288,289,290,291,292,293,294,295,296,297,298,299,300,301,302,303,304,305,306,307,308,309,310,311,312,313,314,315,316,317,318,319,320,321,322,323,324,325,326,327,328,337,533,534,535,536,537,538,539,540,541,542,543,544,545,546,547,548,549,550,551,552,553,554,555,556,557,558,559,560,561,562,563,564,565,566,567,568,569,570,571,572,573,574,575,576,577,578,579,580,581,582,583,584,585,586,587,588,589,590,591,592,593,594,595,596,597,598,599,600,601,602,603,604,605,606,607,608,609,610,611,612,613,614,615,616,617,618,619,620,621,622,623,624,625,626,627,628,629,630,631,632,633,634,635,636,637,638,639,640,641,642,643,644,645,646,647,648,649,650,651,652,653,654,655,656,657,658,659,660,661,662,663,664,665,666,667,668,669,670,671,672,673,674,675,676,677,678,679,680,681]
def H1 (P:Params):Heap:=⟨(ajQ P).toArray,{}⟩
theorem aqP (P:Params):absHeap (T52 P) 682 {}=H1 P:=by kernel_rfl
def qv:Program:={ pw with main:={ pw.main with body:=[pw.main.body[51]!] } }
theorem aqQ (w:World) (os:OsState):topGo treeTable pw w 11 (some (.ref 6)) 12 ⟨boot_heap w.params,#[],boot_drawn,boot_toks,os⟩ (topStub pw) =
  some ((({ tree:=T4 w.params,n:=15,life:={ },gens:={ toList:=[] },drawn:={ },toks:=187,os:=os }:SharedT)).abs,⟨denote treeTable (Code.body pw.main.body envT),Code.body pw.main.body envT,{ line:=0,col:=0,endLine:=0,endCol:=0 },[topFrame { line:=0,col:=0,endLine:=0,endCol:=0 }]⟩):=by
 rw [PySem.W.Fast.te15667345088766844465,PySem.W.Fast.te14364793385576792824,PySem.W.Fast.te11892475500146522536]
 kernel_rfl
theorem ajR (w:World) (os:OsState) (S:Shared):segRun treeTable pw w 11 (some (.ref 6)) 1 1 S (blockOf pw.main.body envT (Code.body pw.main.body envT) { line:=0,col:=0,endLine:=0,endCol:=0 } [topFrame { line:=0,col:=0,endLine:=0,endCol:=0 }]) =
  some (.next,S,Code.body pw.main.body envT,{ line:=0,col:=0,endLine:=0,endCol:=0 }):=by
 kernel_rfl
theorem fin2 (w:World) (S:Shared):topRun treeTable pw w 11 (some (.ref 6)) 2 S ⟨doneF .next,Code.body pw.main.body envT,{ line:=252,col:=0,endLine:=269,endCol:=95 },[topFrame { line:=0,col:=0,endLine:=0,endCol:=0 }]⟩=some S:=by
 kernel_rfl
end
end MineH
end
section
namespace MineH
section
theorem ajS:pw.main.body=stK 0 11++(stK 11 4++(stK 15 1++(stK 16 11++(stK 27 1++(stK 28 4++(stK 32 1++(stK 33 19++[]))))))):=by kernel_rfl
noncomputable def MM:Nat:=12+(1+(400+(1500+(6000+(400+(6000+(150+(100+(700+2)))))))))
theorem aqR (w:World) (os:OsState):(S52 w os).abs=⟨H1 w.params,#[],{},1362,os⟩:=by
 show (⟨absHeap (T52 w.params) 682 {},#[],{},1362,os⟩:Shared)=_
 rw [aqP]
theorem runs (w:World) (os:OsState):topRun treeTable pw w 11 (some (.ref 6)) MM ⟨boot_heap w.params,#[],boot_drawn,boot_toks,os⟩ (topStub pw)=some ⟨H1 w.params,#[],{},1362,os⟩:=by
 have f:=fin2 w (S52 w os).abs
 have f:=piece_app (segRun_of (u7 w os)) (piece_nil f)
 have f:=piece_app (segRun_of (u6 w os)) f
 have f:=piece_app (segRun_of (u5 w os)) f
 have f:=piece_app (segRun_of (u4 w os)) f
 have f:=piece_app (segRun_of (u3 w os)) f
 have f:=piece_app (segRun_of (u2 w os)) f
 have f:=piece_app (segRun_of (u1 w os)) f
 have f:=piece_app (segRun_of (u0 w os)) f
 rw [← ajS] at f
 have kb:=piece_block (ajR w os _) f
 have:=go_top (aqQ w os) kb
 rw [aqR] at this
 exact this
theorem aqS:∀ w:World,(fencedOpening treeTable pw w 29658).map (fun s=>(s.heap,s.gens,s.drawn,s.toks))=some (boot_heap w.params,Array.mk [],boot_drawn,boot_toks):=
 boot_open (by kernel_rfl) (by kernel_rfl) (fun s=>by kernel_rfl)
theorem aqT:∀ w:World,((boot_heap w.params).isNs mainGlobals&&(#[]:Array GenState).size==0,(boot_heap w.params).objs.size,(boot_heap w.params).nsMap mainGlobals "__annotations__")=(true,11,some (.ref 6)):=by
 intro w; kernel_rfl
noncomputable def OR:List Str:=[Str.ofString "AssemblyFault",Str.ofString "REGISTER_NAMES",Str.ofString "LUI",Str.ofString "AUIPC",Str.ofString "JAL",Str.ofString "WITH_IMM",Str.ofString "WITH_REG",Str.ofString "FENCE",Str.ofString "SYSTEM",Str.ofString "INSTRUCTIONS",Str.ofString "PLACES",Str.ofString "BOUNDS",Str.ofString "numbers_by_name",Str.ofString "REGISTER_NUMBERS",Str.ofString "register_number",Str.ofString "signed",Str.ofString "high_part",Str.ofString "low_part",Str.ofString "fits",Str.ofString "imm_bits",Str.ofString "imm_mask",Str.ofString "imm_of",Str.ofString "with_imm",Str.ofString "encode",Str.ofString "names_by_base",Str.ofString "NAMES_BY_BASE",Str.ofString "name_of",Str.ofString "decode",Str.ofString "_law_pictures",Str.ofString "_law_turns",Str.ofString "_law_groups",Str.ofString "_law_keys",Str.ofString "_law_wrong_names",Str.ofString "_law_no_instructions",Str.ofString "_law_draw",Str.ofString "_law_rows",Str.ofString "_law_bits",Str.ofString "_law_laid",Str.ofString "_law_read",Str.ofString "_law_fields",Str.ofString "_law_with",Str.ofString "_law_is_refused",Str.ofString "_law_is_number_right",Str.ofString "_law_is_form_right",Str.ofString "_law_by_opcode",Str.ofString "_law_is_turned_right",Str.ofString "_law_are_parts_right",Str.ofString "_law_are_registers_right"]
abbrev XtB (s:Shared):Bool:=xlAt qv [] s&&recOk [] s
def obsX (s:Shared):List (Option Obj):=kAs.map s.heap.get?
def valX (w:World):List (Option Obj):=(Kx w.params).map fun p=>some p.2
theorem aqU (w:World) (os:OsState):(staticsOk (importedModules pw.main.body) (boot_heap w.params) (H1 w.params)&&namesBound pw (H1 w.params)&&gensDone ⟨H1 w.params,#[],{},1362,os⟩&&laidKept (boot_heap w.params) (H1 w.params))=true:=by
 kernel_rfl
theorem aqV (w:World) (os:OsState):obsX ⟨H1 w.params,#[],{},1362,os⟩=valX w:=by kernel_rfl
end
end MineH
end
section
namespace MineH
section
theorem aqW (w:World) (os:OsState):openSeen qv OR (importedModules pw.main.body) XtB true ⟨H1 w.params,#[],{},1362,os⟩=openGood qv OR:=by
 unfold openSeen openGood
 refine looks_pair ?_ (looks_pair ?_ (looks_pair ?_ (looks_pair ?_ (looks_pair ?_ (looks_pair ?_ (looks_pair ?_ (looks_pair ?_ ?_)))))))<;>kernel_rfl
theorem left:LeftO pw qv OR XtB obsX valX 29658 true:=
 LeftO.of_pieces (H₀:=boot_heap) (H₁:=H1) (gs₀:=#[]) (gs₁:=#[]) (d₀:=boot_drawn) (d₁:={}) (k₀:=boot_toks) (k₁:=1362) (m₀:=11) (ann:=some (.ref 6)) (M:=MM)
  aqS aqT runs (by kernel_rfl) (fun w=>by
   funext os
   exact looks_pair (aqU w os) (looks_pair (aqW w os) (aqV w os)))
def aqX (i:Nat):Pos:=match pw.main.body[i]? with | some (.FunctionDef _ _ _ _ _ _ _ _ _ p)=>p | _=>⟨0,0,0,0⟩
def dLaw:DefRec:=⟨Str.ofString "law",fdP 51,fdB 51,fdS 51,aqX 51⟩
abbrev rwl:OpenLaw:=PySem.Challenge.rw_nm0009_01
theorem aqY:defOf qv rwl.row.name=some (dLaw,[]):=by kernel_rfl
theorem hpL:rwl.row.prog.theDef rwl.row.name=some (dLaw.params,dLaw.body,dLaw.scope):=by kernel_rfl
theorem hkL:kwWritten? dLaw.params.kwonlyargs dLaw.params.kw_defaults=some []:=by kernel_rfl
abbrev hkX:Hook:=kHook Kx kAs (fun _=>by kernel_rfl)
theorem ajT {a b:Bool} (h:a=true) (k:b=true):(a&&b)=true:=by rw [h,k]; rfl
theorem okL:PySem.Challenge.rw_nm0009_01.wellSaid=true:=by
 unfold OpenLaw.wellSaid OpenRow.wellSaid OpenRow.partSaid looksOpen
 repeat' (with_reducible refine ajT ?_ ?_)
 all_goals decide +kernel
theorem hd (walk:WalkO qv OR (XL qv []) (Hook.says hkX) rwl.row.toRowW dLaw [] (fun f vs=>PySem.call f vs)):rwl.Holds:=by
 refine holds_law okL fun said=>?_
 refine PySem.W.holds_open (r:=rwl.row) (q:=qv) (loose:=OR) (Xt:=XtB) (XP:=XL qv []) (Yf:=obsX) (Ya:=valX) (YP:=Hook.says hkX) (N:=29658) left (Hook.of hkX) (Hook.keeps hkX) (fun s e=>xl_of s (Bool.and_eq_true_iff.mp e).1) XL.keeps aqY hpL hkL (fun s e=>recFacts_of (Bool.and_eq_true_iff.mp e).2) rfl (by assumption) (by decide +kernel) ⟨rfl,rfl,rfl,rfl,rfl,by decide +kernel⟩ ?hw walk
 case hw=>w_witness2
end
end MineH
end
section
open PySem.SeqAt MineH
namespace Mine
section
theorem aqZ {h:Heap} {a:Addr} {m m':Str→Option Value} (x:h.Ns a m) (y:h.Ns a m'):m=m':=by
 (refine ob34 x ?_; clear x; intro o es ep e d _ f)
 (refine ob34 y ?_; clear y; intro o' es' ep' e' d' _ f')
 rw [e] at e'
 injection e' with e'
 subst e'
 rw [d] at d'
 injection d' with d1 d2
 subst d1
 funext n
 rw [← f n,← f' n]
noncomputable def IT (es:List DictEntry):Bool:=match es with
 | []=>true
 | e :: r=>(match e.key with | .str _ _=>true | _=>false)&&IT r
theorem JJ:∀ {es:List DictEntry},IT es=true→∀ e∈es,∃ n t,e.key=.str n t
 | [],_,_,he=>nomatch he
 | e :: r,h,e',he=>by
  simp only [IT,Bool.and_eq_true] at h
  rcases List.mem_cons.mp he with q | q
  ·subst q
   have h1:=h.1
   split at h1
   ·rename_i n t q; exact ⟨n,t,q⟩
   ·cases h1
  ·exact JJ h.2 e' q
noncomputable def DT (o:Obj):Array DictEntry:=match o.data with | .dict es _=>es | _=>#[]
noncomputable def WT (o:Obj):Bool:=match o.data with | .dict _ _=>true | _=>false
theorem afY {h:Heap} {a:Addr} {o:Obj} (e:h.get? a=some o) (hd:WT o=true) (hk:IT (DT o).toList=true):h.Ns a (nsFind (DT o)):=by
 unfold WT at hd
 split at hd
 ·rename_i es ep q
  have:DT o=es:=by unfold DT; rw [q]
  rw [this] at hk ⊢
  exact ⟨o,es,ep,e,q,fun x hx=>JJ hk x (by simpa using hx),fun _=>rfl⟩
 ·cases hd
variable {w:World} {h:Heap}
abbrev gm (w:World):Str→Option Value:=nsFind (DT (o3 w.params))
abbrev bmm (w:World):Str→Option Value:=nsFind (DT (PySem.W.boot_o_0 w.params))
theorem ns_g (X:(Kx w.params).In h):h.Ns mainGlobals (gm w):=afY (X 3 _ (by kernel_rfl)) (by kernel_rfl) (by kernel_rfl)
theorem ns_b (X:(Kx w.params).In h):h.Ns builtinsNs (bmm w):=afY (X 0 _ (by kernel_rfl)) (by kernel_rfl) (by kernel_rfl)
theorem BZ (X:(Kx w.params).In h) {f:Str} {v:Value} (e:gm w f=some v):∀ mg,h.Ns mainGlobals mg→mg f=some v:=fun mg n=>by rw [aqZ n (ns_g X)]; exact e
end
end Mine
end
section
open PySem.SeqAt MineH
namespace Mine
section
variable {prog:Program} {w:World} {h:Heap}
abbrev HasG (prog:Program) (w:World) (h:Heap) (t:AV) (v:Value):Prop:=Has prog w (VX (fun _=>False) h) [] t v
theorem ci {x:Str} {t:AV} {v:Value} (n:Nat) (X:(Kx w.params).In h) (e:gm w x=some v) (c:chk (Kx w.params) n t v=true):∃ v,gm w x=some v∧HasG prog w h t v:=⟨v,e,MS X n t v c⟩
theorem g1 (X:(Kx w.params).In h):∃ v,gm w "REGISTER_NAMES" = some v∧HasG prog w h EX v:=ci 100 X (v:=.ref 35) (by kernel_rfl) (by kernel_rfl)
theorem g2 (X:(Kx w.params).In h):∃ v,gm w "LUI" = some v∧HasG prog w h ajC v:=ci 100 X (v:=.int 55 255) (by kernel_rfl) (by kernel_rfl)
theorem g3 (X:(Kx w.params).In h):∃ v,gm w "AUIPC" = some v∧HasG prog w h VK v:=ci 100 X (v:=.int 23 257) (by kernel_rfl) (by kernel_rfl)
theorem g4 (X:(Kx w.params).In h):∃ v,gm w "JAL" = some v∧HasG prog w h ajD v:=ci 100 X (v:=.int 111 259) (by kernel_rfl) (by kernel_rfl)
theorem g5 (X:(Kx w.params).In h):∃ v,gm w "WITH_IMM" = some v∧HasG prog w h K4 v:=ci 100 X (v:=.int 19 261) (by kernel_rfl) (by kernel_rfl)
theorem g6 (X:(Kx w.params).In h):∃ v,gm w "WITH_REG" = some v∧HasG prog w h K5 v:=ci 100 X (v:=.int 51 263) (by kernel_rfl) (by kernel_rfl)
theorem g7 (X:(Kx w.params).In h):∃ v,gm w "FENCE" = some v∧HasG prog w h VL v:=ci 100 X (v:=.int 15 265) (by kernel_rfl) (by kernel_rfl)
theorem g8 (X:(Kx w.params).In h):∃ v,gm w "SYSTEM" = some v∧HasG prog w h Q6 v:=ci 100 X (v:=.int 115 267) (by kernel_rfl) (by kernel_rfl)
noncomputable def dS?:AV→List Str×List AV | .dS ks l=>(ks,l) | _=>([],[])
noncomputable def dI?:AV→List Int×List AV | .dI ks l=>(ks,l) | _=>([],[])
noncomputable def acL (o:Obj):Nat:=match o.data with | .dict _ n=>n | _=>0
theorem cS {x:Str} {ks:List Str} {l:List AV} {a:Addr} {o:Obj} (n:Nat) (X:(Kx w.params).In h) (e:gm w x=some (.ref a)) (ho:(Kx w.params).lookup a=some o) (hs:(!(Nat.beq a sysModules))=true) (hd:o={ cls:=.type "dict",data:=.dict (DT o) (acL o) })
  (hk:ON ks (DT o).toList=true) (hh:DE (hashStr w) ks (DT o).toList) (hn:decide ks.Nodup=true) (hv:chkL (Kx w.params) n l ((DT o).toList.map (·.val))=true):∃ v,gm w x=some v∧HasG prog w h (.dS ks l) v:=
 ⟨_,e,ajN (n:=n) X (by rw [← hd]; exact ho) hs hk hh (of_decide_eq_true hn) hv⟩
theorem cI {x:Str} {ks:List Int} {l:List AV} {a:Addr} {o:Obj} (n:Nat) (X:(Kx w.params).In h) (e:gm w x=some (.ref a)) (ho:(Kx w.params).lookup a=some o) (hs:(!(Nat.beq a sysModules))=true) (hd:o={ cls:=.type "dict",data:=.dict (DT o) (acL o) })
  (hk:OO ks (DT o).toList=true) (hh:DE hashInt ks (DT o).toList) (hn:decide ks.Nodup=true) (hv:chkL (Kx w.params) n l ((DT o).toList.map (·.val))=true):∃ v,gm w x=some v∧HasG prog w h (.dI ks l) v:=
 ⟨_,e,ajO (n:=n) X (by rw [← hd]; exact ho) hs hk hh (of_decide_eq_true hn) hv⟩
theorem DU {α:Type} {f:α→Int}:∀ {ks:List α} {es:List DictEntry},es.map (·.hash)=ks.map f→DE f ks es
 | [],_,_=>trivial
 | _ :: _,_ :: _,h=>⟨(List.cons.inj h).1,DU (List.cons.inj h).2⟩
 | _ :: _,[],h=>nomatch h
theorem g9 (X:(Kx w.params).In h):∃ v,gm w "INSTRUCTIONS" = some v∧HasG prog w h CH v:=by
 unfold CH
 refine cS 200 X (a:=36) (o:=o36 w.params) (by kernel_rfl) (by kernel_rfl) (by kernel_rfl) (by kernel_rfl) (by kernel_rfl) (DU (by kernel_rfl)) (by kernel_rfl) (by kernel_rfl)
theorem g10 (X:(Kx w.params).In h):∃ v,gm w "PLACES" = some v∧HasG prog w h L4 v:=by
 unfold L4
 refine cS 200 X (a:=87) (o:=o87 w.params) (by kernel_rfl) (by kernel_rfl) (by kernel_rfl) (by kernel_rfl) (by kernel_rfl) (DU (by kernel_rfl)) (by kernel_rfl) (by kernel_rfl)
theorem g11 (X:(Kx w.params).In h):∃ v,gm w "BOUNDS" = some v∧HasG prog w h G9 v:=by
 unfold G9
 refine cS 200 X (a:=110) (o:=o110 w.params) (by kernel_rfl) (by kernel_rfl) (by kernel_rfl) (by kernel_rfl) (by kernel_rfl) (DU (by kernel_rfl)) (by kernel_rfl) (by kernel_rfl)
theorem g12 (X:(Kx w.params).In h):∃ v,gm w "REGISTER_NUMBERS" = some v∧HasG prog w h CV v:=by
 unfold CV
 refine cS 200 X (a:=126) (o:=o126 w.params) (by kernel_rfl) (by kernel_rfl) (by kernel_rfl) (by kernel_rfl) (by kernel_rfl) (DU (by kernel_rfl)) (by kernel_rfl) (by kernel_rfl)
theorem g13 (X:(Kx w.params).In h):∃ v,gm w "NAMES_BY_BASE" = some v∧HasG prog w h DP v:=by
 unfold DP
 refine cI 200 X (a:=337) (o:=o337 w.params) (by kernel_rfl) (by kernel_rfl) (by kernel_rfl) (by kernel_rfl) (by kernel_rfl) (DU (by kernel_rfl)) (by kernel_rfl) (by kernel_rfl)
theorem g14 (X:(Kx w.params).In h):∃ v,gm w "_law_turns" = some v∧HasG prog w h GU v:=by
 unfold GU
 refine cS 200 X (a:=554) (o:=o554 w.params) (by kernel_rfl) (by kernel_rfl) (by kernel_rfl) (by kernel_rfl) (by kernel_rfl) (DU (by kernel_rfl)) (by kernel_rfl) (by kernel_rfl)
theorem WU (X:(Kx w.params).In h):∀ p∈globs,∃ val,gm w p.1=some val∧HasG prog w h p.2 val:=
 fa (g1 X) (fa (g2 X) (fa (g3 X) (fa (g4 X) (fa (g5 X) (fa (g6 X) (fa (g7 X) (fa (g8 X) (fa (g9 X) (fa (g10 X) (fa (g11 X) (fa (g12 X) (fa (g13 X) (fa (g14 X) fa0)))))))))))))
theorem aaY (X:(Kx w.params).In h):∀ x v,globs.lookup x=some v→∃ val,gm w x=some val∧HasG prog w h v val:=fun _ _ e=>WU X _ (AF e)
theorem ajU:∀ p∈bkL,gm w p.1=none∧bmm w p.1=some p.2.val:=
 fa ⟨by kernel_rfl,by kernel_rfl⟩ (fa ⟨by kernel_rfl,by kernel_rfl⟩ (fa ⟨by kernel_rfl,by kernel_rfl⟩ (fa ⟨by kernel_rfl,by kernel_rfl⟩ (fa ⟨by kernel_rfl,by kernel_rfl⟩ (fa ⟨by kernel_rfl,by kernel_rfl⟩ (fa ⟨by kernel_rfl,by kernel_rfl⟩ fa0))))))
theorem arA:∀ f k,bkOf f=some k→gm w f=none∧bmm w f=some k.val:=fun _ _ e=>ajU _ (AF e)
theorem gok0 (X:(Kx w.params).In h):GOK prog w c0 h:=⟨⟨gm w,bmm w,ns_g X,ns_b X,aaY X,arA,fun _ _ e=>(nomatch e),fun _ _ e=>(nomatch e)⟩⟩
end
end Mine
end
section
open PySem.SeqAt MineH
namespace Mine
section
variable {prog:Program} {w:World} {h:Heap}
noncomputable def AP (i:Nat):Arguments:=match PySem.Challenge.pw_nm0009_01.main.body[i]? with | some (.FunctionDef _ a _ _ _ _ _ _ _ _)=>a | _=>default
noncomputable def pmOf (o:Obj):Value:=match o.data with | .func fd=>fd.pyModule | _=>.none
noncomputable def dcOf (o:Obj):Value:=match o.data with | .func fd=>fd.doc | _=>.none
theorem CJ (X:(Kx w.params).In h):∃ o,h.get? sysModules=some o:=⟨PySem.W.boot_o_1 w.params,X 1 _ (by kernel_rfl)⟩
theorem d16 (X:(Kx w.params).In h) (lim:h.NoLimit):DefAt h 265 "register_number" (AP 16) (AE 16) (AC 16) ["text"]:=
 ⟨⟨_,pmOf (o265 w.params),.ref 264,dcOf (o265 w.params),X 265 (o265 w.params) (by kernel_rfl),by kernel_rfl,⟨264,_,_,_,rfl,X 264 (o264 w.params) (by kernel_rfl),rfl,rfl⟩⟩,lim,CJ X,by kernel_rfl,by kernel_rfl,by kernel_rfl,by kernel_rfl,fun _ _ _=>len1 fun _=>rfl,by kernel_rfl,by decide +kernel⟩
theorem d17 (X:(Kx w.params).In h) (lim:h.NoLimit):DefAt h 272 "signed" (AP 17) (AE 17) (AC 17) ["value","width"]:=
 ⟨⟨_,pmOf (o272 w.params),.ref 271,dcOf (o272 w.params),X 272 (o272 w.params) (by kernel_rfl),by kernel_rfl,⟨271,_,_,_,rfl,X 271 (o271 w.params) (by kernel_rfl),rfl,rfl⟩⟩,lim,CJ X,by kernel_rfl,by kernel_rfl,by kernel_rfl,by kernel_rfl,fun _ _ _=>len2 fun _ _=>rfl,by kernel_rfl,by decide +kernel⟩
theorem d18 (X:(Kx w.params).In h) (lim:h.NoLimit):DefAt h 279 "high_part" (AP 18) (AE 18) (AC 18) ["value"]:=
 ⟨⟨_,pmOf (o279 w.params),.ref 278,dcOf (o279 w.params),X 279 (o279 w.params) (by kernel_rfl),by kernel_rfl,⟨278,_,_,_,rfl,X 278 (o278 w.params) (by kernel_rfl),rfl,rfl⟩⟩,lim,CJ X,by kernel_rfl,by kernel_rfl,by kernel_rfl,by kernel_rfl,fun _ _ _=>len1 fun _=>rfl,by kernel_rfl,by decide +kernel⟩
theorem d19 (X:(Kx w.params).In h) (lim:h.NoLimit):DefAt h 286 "low_part" (AP 19) (AE 19) (AC 19) ["value"]:=
 ⟨⟨_,pmOf (o286 w.params),.ref 285,dcOf (o286 w.params),X 286 (o286 w.params) (by kernel_rfl),by kernel_rfl,⟨285,_,_,_,rfl,X 285 (o285 w.params) (by kernel_rfl),rfl,rfl⟩⟩,lim,CJ X,by kernel_rfl,by kernel_rfl,by kernel_rfl,by kernel_rfl,fun _ _ _=>len1 fun _=>rfl,by kernel_rfl,by decide +kernel⟩
theorem d20 (X:(Kx w.params).In h) (lim:h.NoLimit):DefAt h 293 "fits" (AP 20) (AE 20) (AC 20) ["name","imm"]:=
 ⟨⟨_,pmOf (o293 w.params),.ref 292,dcOf (o293 w.params),X 293 (o293 w.params) (by kernel_rfl),by kernel_rfl,⟨292,_,_,_,rfl,X 292 (o292 w.params) (by kernel_rfl),rfl,rfl⟩⟩,lim,CJ X,by kernel_rfl,by kernel_rfl,by kernel_rfl,by kernel_rfl,fun _ _ _=>len2 fun _ _=>rfl,by kernel_rfl,by decide +kernel⟩
theorem d21 (X:(Kx w.params).In h) (lim:h.NoLimit):DefAt h 300 "imm_bits" (AP 21) (AE 21) (AC 21) ["form","imm"]:=
 ⟨⟨_,pmOf (o300 w.params),.ref 299,dcOf (o300 w.params),X 300 (o300 w.params) (by kernel_rfl),by kernel_rfl,⟨299,_,_,_,rfl,X 299 (o299 w.params) (by kernel_rfl),rfl,rfl⟩⟩,lim,CJ X,by kernel_rfl,by kernel_rfl,by kernel_rfl,by kernel_rfl,fun _ _ _=>len2 fun _ _=>rfl,by kernel_rfl,by decide +kernel⟩
theorem d22 (X:(Kx w.params).In h) (lim:h.NoLimit):DefAt h 307 "imm_mask" (AP 22) (AE 22) (AC 22) ["form"]:=
 ⟨⟨_,pmOf (o307 w.params),.ref 306,dcOf (o307 w.params),X 307 (o307 w.params) (by kernel_rfl),by kernel_rfl,⟨306,_,_,_,rfl,X 306 (o306 w.params) (by kernel_rfl),rfl,rfl⟩⟩,lim,CJ X,by kernel_rfl,by kernel_rfl,by kernel_rfl,by kernel_rfl,fun _ _ _=>len1 fun _=>rfl,by kernel_rfl,by decide +kernel⟩
theorem d23 (X:(Kx w.params).In h) (lim:h.NoLimit):DefAt h 314 "imm_of" (AP 23) (AE 23) (AC 23) ["form","word"]:=
 ⟨⟨_,pmOf (o314 w.params),.ref 313,dcOf (o314 w.params),X 314 (o314 w.params) (by kernel_rfl),by kernel_rfl,⟨313,_,_,_,rfl,X 313 (o313 w.params) (by kernel_rfl),rfl,rfl⟩⟩,lim,CJ X,by kernel_rfl,by kernel_rfl,by kernel_rfl,by kernel_rfl,fun _ _ _=>len2 fun _ _=>rfl,by kernel_rfl,by decide +kernel⟩
theorem d24 (X:(Kx w.params).In h) (lim:h.NoLimit):DefAt h 321 "with_imm" (AP 24) (AE 24) (AC 24) ["word","form","imm"]:=
 ⟨⟨_,pmOf (o321 w.params),.ref 320,dcOf (o321 w.params),X 321 (o321 w.params) (by kernel_rfl),by kernel_rfl,⟨320,_,_,_,rfl,X 320 (o320 w.params) (by kernel_rfl),rfl,rfl⟩⟩,lim,CJ X,by kernel_rfl,by kernel_rfl,by kernel_rfl,by kernel_rfl,fun _ _ _=>len3 fun _ _ _=>rfl,by kernel_rfl,by decide +kernel⟩
theorem d25 (X:(Kx w.params).In h) (lim:h.NoLimit):DefAt h 328 "encode" (AP 25) (AE 25) (AC 25) ["name","fields"]:=
 ⟨⟨_,pmOf (o328 w.params),.ref 327,dcOf (o328 w.params),X 328 (o328 w.params) (by kernel_rfl),by kernel_rfl,⟨327,_,_,_,rfl,X 327 (o327 w.params) (by kernel_rfl),rfl,rfl⟩⟩,lim,CJ X,by kernel_rfl,by kernel_rfl,by kernel_rfl,by kernel_rfl,fun _ _ _=>len2 fun _ _=>rfl,by kernel_rfl,by decide +kernel⟩
theorem d28 (X:(Kx w.params).In h) (lim:h.NoLimit):DefAt h 539 "name_of" (AP 28) (AE 28) (AC 28) ["word"]:=
 ⟨⟨_,pmOf (o539 w.params),.ref 538,dcOf (o539 w.params),X 539 (o539 w.params) (by kernel_rfl),by kernel_rfl,⟨538,_,_,_,rfl,X 538 (o538 w.params) (by kernel_rfl),rfl,rfl⟩⟩,lim,CJ X,by kernel_rfl,by kernel_rfl,by kernel_rfl,by kernel_rfl,fun _ _ _=>len1 fun _=>rfl,by kernel_rfl,by decide +kernel⟩
theorem d29 (X:(Kx w.params).In h) (lim:h.NoLimit):DefAt h 546 "decode" (AP 29) (AE 29) (AC 29) ["word"]:=
 ⟨⟨_,pmOf (o546 w.params),.ref 545,dcOf (o546 w.params),X 546 (o546 w.params) (by kernel_rfl),by kernel_rfl,⟨545,_,_,_,rfl,X 545 (o545 w.params) (by kernel_rfl),rfl,rfl⟩⟩,lim,CJ X,by kernel_rfl,by kernel_rfl,by kernel_rfl,by kernel_rfl,fun _ _ _=>len1 fun _=>rfl,by kernel_rfl,by decide +kernel⟩
theorem d31 (X:(Kx w.params).In h) (lim:h.NoLimit):DefAt h 553 "_law_pictures" (AP 31) (AE 31) (AC 31) []:=
 ⟨⟨_,pmOf (o553 w.params),.ref 552,dcOf (o553 w.params),X 553 (o553 w.params) (by kernel_rfl),by kernel_rfl,⟨552,_,_,_,rfl,X 552 (o552 w.params) (by kernel_rfl),rfl,rfl⟩⟩,lim,CJ X,by kernel_rfl,by kernel_rfl,by kernel_rfl,by kernel_rfl,fun _ _ _=>len0 rfl,by kernel_rfl,by decide +kernel⟩
theorem d33 (X:(Kx w.params).In h) (lim:h.NoLimit):DefAt h 563 "_law_groups" (AP 33) (AE 33) (AC 33) []:=
 ⟨⟨_,pmOf (o563 w.params),.ref 562,dcOf (o563 w.params),X 563 (o563 w.params) (by kernel_rfl),by kernel_rfl,⟨562,_,_,_,rfl,X 562 (o562 w.params) (by kernel_rfl),rfl,rfl⟩⟩,lim,CJ X,by kernel_rfl,by kernel_rfl,by kernel_rfl,by kernel_rfl,fun _ _ _=>len0 rfl,by kernel_rfl,by decide +kernel⟩
theorem d34 (X:(Kx w.params).In h) (lim:h.NoLimit):DefAt h 570 "_law_keys" (AP 34) (AE 34) (AC 34) []:=
 ⟨⟨_,pmOf (o570 w.params),.ref 569,dcOf (o570 w.params),X 570 (o570 w.params) (by kernel_rfl),by kernel_rfl,⟨569,_,_,_,rfl,X 569 (o569 w.params) (by kernel_rfl),rfl,rfl⟩⟩,lim,CJ X,by kernel_rfl,by kernel_rfl,by kernel_rfl,by kernel_rfl,fun _ _ _=>len0 rfl,by kernel_rfl,by decide +kernel⟩
theorem d35 (X:(Kx w.params).In h) (lim:h.NoLimit):DefAt h 577 "_law_wrong_names" (AP 35) (AE 35) (AC 35) []:=
 ⟨⟨_,pmOf (o577 w.params),.ref 576,dcOf (o577 w.params),X 577 (o577 w.params) (by kernel_rfl),by kernel_rfl,⟨576,_,_,_,rfl,X 576 (o576 w.params) (by kernel_rfl),rfl,rfl⟩⟩,lim,CJ X,by kernel_rfl,by kernel_rfl,by kernel_rfl,by kernel_rfl,fun _ _ _=>len0 rfl,by kernel_rfl,by decide +kernel⟩
theorem d36 (X:(Kx w.params).In h) (lim:h.NoLimit):DefAt h 584 "_law_no_instructions" (AP 36) (AE 36) (AC 36) []:=
 ⟨⟨_,pmOf (o584 w.params),.ref 583,dcOf (o584 w.params),X 584 (o584 w.params) (by kernel_rfl),by kernel_rfl,⟨583,_,_,_,rfl,X 583 (o583 w.params) (by kernel_rfl),rfl,rfl⟩⟩,lim,CJ X,by kernel_rfl,by kernel_rfl,by kernel_rfl,by kernel_rfl,fun _ _ _=>len0 rfl,by kernel_rfl,by decide +kernel⟩
theorem d37 (X:(Kx w.params).In h) (lim:h.NoLimit):DefAt h 591 "_law_draw" (AP 37) (AE 37) (AC 37) ["well","sizes"]:=
 ⟨⟨_,pmOf (o591 w.params),.ref 590,dcOf (o591 w.params),X 591 (o591 w.params) (by kernel_rfl),by kernel_rfl,⟨590,_,_,_,rfl,X 590 (o590 w.params) (by kernel_rfl),rfl,rfl⟩⟩,lim,CJ X,by kernel_rfl,by kernel_rfl,by kernel_rfl,by kernel_rfl,fun _ _ _=>len2 fun _ _=>rfl,by kernel_rfl,by decide +kernel⟩
theorem d38 (X:(Kx w.params).In h) (lim:h.NoLimit):DefAt h 598 "_law_rows" (AP 38) (AE 38) (AC 38) []:=
 ⟨⟨_,pmOf (o598 w.params),.ref 597,dcOf (o598 w.params),X 598 (o598 w.params) (by kernel_rfl),by kernel_rfl,⟨597,_,_,_,rfl,X 597 (o597 w.params) (by kernel_rfl),rfl,rfl⟩⟩,lim,CJ X,by kernel_rfl,by kernel_rfl,by kernel_rfl,by kernel_rfl,fun _ _ _=>len0 rfl,by kernel_rfl,by decide +kernel⟩
theorem d39 (X:(Kx w.params).In h) (lim:h.NoLimit):DefAt h 605 "_law_bits" (AP 39) (AE 39) (AC 39) ["form"]:=
 ⟨⟨_,pmOf (o605 w.params),.ref 604,dcOf (o605 w.params),X 605 (o605 w.params) (by kernel_rfl),by kernel_rfl,⟨604,_,_,_,rfl,X 604 (o604 w.params) (by kernel_rfl),rfl,rfl⟩⟩,lim,CJ X,by kernel_rfl,by kernel_rfl,by kernel_rfl,by kernel_rfl,fun _ _ _=>len1 fun _=>rfl,by kernel_rfl,by decide +kernel⟩
theorem d40 (X:(Kx w.params).In h) (lim:h.NoLimit):DefAt h 612 "_law_laid" (AP 40) (AE 40) (AC 40) ["drawing","known"]:=
 ⟨⟨_,pmOf (o612 w.params),.ref 611,dcOf (o612 w.params),X 612 (o612 w.params) (by kernel_rfl),by kernel_rfl,⟨611,_,_,_,rfl,X 611 (o611 w.params) (by kernel_rfl),rfl,rfl⟩⟩,lim,CJ X,by kernel_rfl,by kernel_rfl,by kernel_rfl,by kernel_rfl,fun _ _ _=>len2 fun _ _=>rfl,by kernel_rfl,by decide +kernel⟩
theorem d41 (X:(Kx w.params).In h) (lim:h.NoLimit):DefAt h 619 "_law_read" (AP 41) (AE 41) (AC 41) ["form","drawing","number"]:=
 ⟨⟨_,pmOf (o619 w.params),.ref 618,dcOf (o619 w.params),X 619 (o619 w.params) (by kernel_rfl),by kernel_rfl,⟨618,_,_,_,rfl,X 618 (o618 w.params) (by kernel_rfl),rfl,rfl⟩⟩,lim,CJ X,by kernel_rfl,by kernel_rfl,by kernel_rfl,by kernel_rfl,fun _ _ _=>len3 fun _ _ _=>rfl,by kernel_rfl,by decide +kernel⟩
theorem d42 (X:(Kx w.params).In h) (lim:h.NoLimit):DefAt h 626 "_law_fields" (AP 42) (AE 42) (AC 42) ["form","known"]:=
 ⟨⟨_,pmOf (o626 w.params),.ref 625,dcOf (o626 w.params),X 626 (o626 w.params) (by kernel_rfl),by kernel_rfl,⟨625,_,_,_,rfl,X 625 (o625 w.params) (by kernel_rfl),rfl,rfl⟩⟩,lim,CJ X,by kernel_rfl,by kernel_rfl,by kernel_rfl,by kernel_rfl,fun _ _ _=>len2 fun _ _=>rfl,by kernel_rfl,by decide +kernel⟩
theorem d43 (X:(Kx w.params).In h) (lim:h.NoLimit):DefAt h 633 "_law_with" (AP 43) (AE 43) (AC 43) ["fields","key","value"]:=
 ⟨⟨_,pmOf (o633 w.params),.ref 632,dcOf (o633 w.params),X 633 (o633 w.params) (by kernel_rfl),by kernel_rfl,⟨632,_,_,_,rfl,X 632 (o632 w.params) (by kernel_rfl),rfl,rfl⟩⟩,lim,CJ X,by kernel_rfl,by kernel_rfl,by kernel_rfl,by kernel_rfl,fun _ _ _=>len3 fun _ _ _=>rfl,by kernel_rfl,by decide +kernel⟩
theorem d44 (X:(Kx w.params).In h) (lim:h.NoLimit):DefAt h 640 "_law_is_refused" (AP 44) (AE 44) (AC 44) ["name","fields"]:=
 ⟨⟨_,pmOf (o640 w.params),.ref 639,dcOf (o640 w.params),X 640 (o640 w.params) (by kernel_rfl),by kernel_rfl,⟨639,_,_,_,rfl,X 639 (o639 w.params) (by kernel_rfl),rfl,rfl⟩⟩,lim,CJ X,by kernel_rfl,by kernel_rfl,by kernel_rfl,by kernel_rfl,fun _ _ _=>len2 fun _ _=>rfl,by kernel_rfl,by decide +kernel⟩
theorem d45 (X:(Kx w.params).In h) (lim:h.NoLimit):DefAt h 645 "_law_is_number_right" (AP 45) (AE 45) (AC 45) ["well","name","form","drawing","fields"]:=
 ⟨⟨_,pmOf (o645 w.params),.ref 644,dcOf (o645 w.params),X 645 (o645 w.params) (by kernel_rfl),by kernel_rfl,⟨644,_,_,_,rfl,X 644 (o644 w.params) (by kernel_rfl),rfl,rfl⟩⟩,lim,CJ X,by kernel_rfl,by kernel_rfl,by kernel_rfl,by kernel_rfl,fun _ _ _=>len5 fun _ _ _ _ _=>rfl,by kernel_rfl,by decide +kernel⟩
theorem d46 (X:(Kx w.params).In h) (lim:h.NoLimit):DefAt h 652 "_law_is_form_right" (AP 46) (AE 46) (AC 46) ["well","form","drawing","rows"]:=
 ⟨⟨_,pmOf (o652 w.params),.ref 651,dcOf (o652 w.params),X 652 (o652 w.params) (by kernel_rfl),by kernel_rfl,⟨651,_,_,_,rfl,X 651 (o651 w.params) (by kernel_rfl),rfl,rfl⟩⟩,lim,CJ X,by kernel_rfl,by kernel_rfl,by kernel_rfl,by kernel_rfl,fun _ _ _=>len4 fun _ _ _ _=>rfl,by kernel_rfl,by decide +kernel⟩
theorem d47 (X:(Kx w.params).In h) (lim:h.NoLimit):DefAt h 657 "_law_by_opcode" (AP 47) (AE 47) (AC 47) ["rows"]:=
 ⟨⟨_,pmOf (o657 w.params),.ref 656,dcOf (o657 w.params),X 657 (o657 w.params) (by kernel_rfl),by kernel_rfl,⟨656,_,_,_,rfl,X 656 (o656 w.params) (by kernel_rfl),rfl,rfl⟩⟩,lim,CJ X,by kernel_rfl,by kernel_rfl,by kernel_rfl,by kernel_rfl,fun _ _ _=>len1 fun _=>rfl,by kernel_rfl,by decide +kernel⟩
theorem d48 (X:(Kx w.params).In h) (lim:h.NoLimit):DefAt h 664 "_law_is_turned_right" (AP 48) (AE 48) (AC 48) ["known_rows","pictures","number","first"]:=
 ⟨⟨_,pmOf (o664 w.params),.ref 663,dcOf (o664 w.params),X 664 (o664 w.params) (by kernel_rfl),by kernel_rfl,⟨663,_,_,_,rfl,X 663 (o663 w.params) (by kernel_rfl),rfl,rfl⟩⟩,lim,CJ X,by kernel_rfl,by kernel_rfl,by kernel_rfl,by kernel_rfl,fun _ _ _=>len4 fun _ _ _ _=>rfl,by kernel_rfl,by decide +kernel⟩
theorem d49 (X:(Kx w.params).In h) (lim:h.NoLimit):DefAt h 671 "_law_are_parts_right" (AP 49) (AE 49) (AC 49) ["value","width"]:=
 ⟨⟨_,pmOf (o671 w.params),.ref 670,dcOf (o671 w.params),X 671 (o671 w.params) (by kernel_rfl),by kernel_rfl,⟨670,_,_,_,rfl,X 670 (o670 w.params) (by kernel_rfl),rfl,rfl⟩⟩,lim,CJ X,by kernel_rfl,by kernel_rfl,by kernel_rfl,by kernel_rfl,fun _ _ _=>len2 fun _ _=>rfl,by kernel_rfl,by decide +kernel⟩
theorem d50 (X:(Kx w.params).In h) (lim:h.NoLimit):DefAt h 676 "_law_are_registers_right" (AP 50) (AE 50) (AC 50) ["wrong"]:=
 ⟨⟨_,pmOf (o676 w.params),.ref 675,dcOf (o676 w.params),X 676 (o676 w.params) (by kernel_rfl),by kernel_rfl,⟨675,_,_,_,rfl,X 675 (o675 w.params) (by kernel_rfl),rfl,rfl⟩⟩,lim,CJ X,by kernel_rfl,by kernel_rfl,by kernel_rfl,by kernel_rfl,fun _ _ _=>len1 fun _=>rfl,by kernel_rfl,by decide +kernel⟩
end
end Mine
end
section
open PySem.SeqAt MineH
namespace Mine
section
variable {prog:Program} {w:World} {h:Heap}
theorem HK {α:Type}:∀ {x:R α},NoExc (noX x)
 | .ret _=>trivial
 | .ite _ _ _=>⟨HK,HK⟩
 | .need _ x=>HK (x:=x)
 | .exc=>trivial
 | .fail=>trivial
theorem B3 {C:Ctx} {d i:Nat} {xs:List Str} (l:List AV):NoExc (run C d i xs l):=HK
theorem CO {C:Prop} {α:Type} {l:List AV} {k:AV→List AV→R α} {P:α→Prop} {X:Prop} (h:(eAny l k).Holds P X) (K:∀ x r,l=x :: r→(k x r).Holds P X→C):C:=by
 cases l with
 | nil=>exact h.elim
 | cons x r=>exact K x r rfl h
theorem C3 {C:Prop} {α:Type} {l:List AV} {k:AV→R α} {P:α→Prop} {X:Prop} (h:(eOne l k).Holds P X) (K:∀ x,l=[x]→(k x).Holds P X→C):C:=CO h fun x r e h=>by
 cases r with
 | nil=>exact K x e h
 | cons y r=>exact h.elim
theorem CP {α:Type} {l:List AV} {k:AV→List AV→R α} (K:∀ x r,NoExc (k x r)):NoExc (eAny l k):=by
 cases l with
 | nil=>exact trivial
 | cons x r=>exact K x r
theorem C4 {α:Type} {l:List AV} {k:AV→R α} (K:∀ x,NoExc (k x)):NoExc (eOne l k):=CP fun x r=>by
 cases r with
 | nil=>exact K x
 | cons y r=>exact trivial
theorem JK {α β:Type} {o:Option β} {k:β→R α} (K:∀ x,NoExc (k x)):NoExc (onO o k):=by
 cases o with
 | none=>exact trivial
 | some x=>exact K x
theorem GB {α:Type} {v:AV} {k:Str→R α} (K:∀ x,NoExc (k x)):NoExc (EB v k):=by
 cases v<;>first | exact trivial | exact K _
theorem EH {v:AV} (l:List AV):NoExc (clo v l):=by cases l<;>exact trivial
theorem PZ (l:List AV):NoExc (aaW l):=C4 fun _=>GB fun _=>JK fun _=>trivial
theorem P7 (l:List AV):NoExc (aaX l):=C4 fun _=>trivial
theorem GC (av:AV):Sub prog w av av:=fun _ _ h=>h
theorem JL {x:R AV} {P:AV→Prop} {X:Prop} (h:x.Holds P X):x.Holds (fun av=>∃ av',P av'∧Sub prog w av av') X:=R.holds_mono (fun av hp=>⟨av,hp,GC av⟩) id h
theorem CC {C:Ctx} {G:Heap} {a i d:Nat} {name:Str} {params:Arguments} {xs:List Str} (D:DefAt G a name params (AE i) (AC i) xs) (hG:GOK prog w C G) (hC:C.raise=false):PureFn prog w G a ⟨d,run C d i xs⟩:=
 (afT D hG hC 60).weaken fun _ _ h=>JL (EG h)
theorem DG {C:Ctx} {G:Heap} {a i d:Nat} {name:Str} {params:Arguments} {xs:List Str} (D:DefAt G a name params (AE i) (AC i) xs) (hG:GOK prog w C G) (hC:C.raise=false) {sp:List AV→R AV} (hs:∀ args P,(sp args).Holds P False→(run C d i xs args).Holds (fun av=>∃ av',P av'∧Sub prog w av av') False):PureFn prog w G a ⟨d,sp⟩:=
 (CC D hG hC).weaken hs
theorem RU {C:Prop} {k f:Str} {ks:List Str} {x v:AV} {vs:List AV} (h:D7 (k :: ks) (x :: vs) f=some v) (K:k=f→x=v→C) (K':D7 ks vs f=some v→C):C:=by
 have h:(match k==f with | true=>some x | false=>D7 ks vs f)=some v:=h
 cases q:k==f with
 | true=>rw [q] at h; exact K (eq_of_beq q) (Option.some.inj h)
 | false=>rw [q] at h; exact K' h
noncomputable def RV (C:Ctx) (d i:Nat) (xs:List Str):List Str→List AV→Prop
 | k :: ks,v :: vs=>run C d i xs [.str k]=.ret v∧RV C d i xs ks vs
 | _,_=>True
theorem WV {C:Ctx} {d i:Nat} {xs:List Str}:∀ {ks:List Str} {vs:List AV} {f:Str} {v:AV},RV C d i xs ks vs→D7 ks vs f=some v→run C d i xs [.str f]=.ret v
 | [],_,_,_,_,e=>nomatch e
 | _ :: _,[],_,_,_,e=>nomatch e
 | k :: ks,x :: vs,f,v,⟨h1,h2⟩,e=>by
  exact RU e (fun e1 e2=>by rw [← e1,← e2]; exact h1) (WV h2)
theorem EI {C:Ctx} {d i:Nat} {v:AV} (e:run C d i [] []=.ret v) (args:List AV) (P:AV→Prop) (h:(clo v args).Holds P False):(run C d i [] args).Holds (fun av=>∃ av',P av'∧Sub prog w av av') False:=by
 cases args with
 | nil=>rw [e]; exact ⟨v,h,GC v⟩
 | cons x r=>exact h.elim
theorem gok1 (X:(Kx w.params).In h) (lim:h.NoLimit):GOK prog w c1 h:=AW (gok0 X) (BZ X (by kernel_rfl)) ⟨o553 w.params,_,X 553 _ (by kernel_rfl),rfl⟩ (DG (d31 X lim) (gok0 X) rfl (EI (DI (by kernel_rfl)))) EH
theorem gok2 (X:(Kx w.params).In h) (lim:h.NoLimit):GOK prog w c2 h:=AW (gok1 X lim) (BZ X (by kernel_rfl)) ⟨o570 w.params,_,X 570 _ (by kernel_rfl),rfl⟩ (DG (d34 X lim) (gok1 X lim) rfl (EI (DI (by kernel_rfl)))) EH
theorem gok3 (X:(Kx w.params).In h) (lim:h.NoLimit):GOK prog w c3 h:=AW (gok2 X lim) (BZ X (by kernel_rfl)) ⟨o563 w.params,_,X 563 _ (by kernel_rfl),rfl⟩ (DG (d33 X lim) (gok2 X lim) rfl (EI (DI (by kernel_rfl)))) EH
theorem gok4 (X:(Kx w.params).In h) (lim:h.NoLimit):GOK prog w c4 h:=AW (gok3 X lim) (BZ X (by kernel_rfl)) ⟨o577 w.params,_,X 577 _ (by kernel_rfl),rfl⟩ (DG (d35 X lim) (gok3 X lim) rfl (EI (DI (by kernel_rfl)))) EH
theorem gok5 (X:(Kx w.params).In h) (lim:h.NoLimit):GOK prog w c5 h:=AW (gok4 X lim) (BZ X (by kernel_rfl)) ⟨o584 w.params,_,X 584 _ (by kernel_rfl),rfl⟩ (DG (d36 X lim) (gok4 X lim) rfl (EI (DI (by kernel_rfl)))) EH
theorem gok6 (X:(Kx w.params).In h) (lim:h.NoLimit):GOK prog w c6 h:=AW (gok5 X lim) (BZ X (by kernel_rfl)) ⟨o265 w.params,_,X 265 _ (by kernel_rfl),rfl⟩ (CC (d16 X lim) (gok5 X lim) rfl) B3
theorem gok7 (X:(Kx w.params).In h) (lim:h.NoLimit):GOK prog w c7 h:=AW (gok6 X lim) (BZ X (by kernel_rfl)) ⟨o272 w.params,_,X 272 _ (by kernel_rfl),rfl⟩ (CC (d17 X lim) (gok6 X lim) rfl) B3
theorem gok8 (X:(Kx w.params).In h) (lim:h.NoLimit):GOK prog w c8 h:=AW (gok7 X lim) (BZ X (by kernel_rfl)) ⟨o279 w.params,_,X 279 _ (by kernel_rfl),rfl⟩ (CC (d18 X lim) (gok7 X lim) rfl) B3
theorem gok9 (X:(Kx w.params).In h) (lim:h.NoLimit):GOK prog w c9 h:=AW (gok8 X lim) (BZ X (by kernel_rfl)) ⟨o286 w.params,_,X 286 _ (by kernel_rfl),rfl⟩ (CC (d19 X lim) (gok8 X lim) rfl) B3
theorem afZ (X:(Kx w.params).In h) (lim:h.NoLimit):GOK prog w c10 h:=AW (gok9 X lim) (BZ X (by kernel_rfl)) ⟨o293 w.params,_,X 293 _ (by kernel_rfl),rfl⟩ (CC (d20 X lim) (gok9 X lim) rfl) B3
theorem ajV (X:(Kx w.params).In h) (lim:h.NoLimit):GOK prog w c11 h:=AW (afZ X lim) (BZ X (by kernel_rfl)) ⟨o300 w.params,_,X 300 _ (by kernel_rfl),rfl⟩ (CC (d21 X lim) (afZ X lim) rfl) B3
theorem ajW (X:(Kx w.params).In h) (lim:h.NoLimit):GOK prog w c12 h:=AW (ajV X lim) (BZ X (by kernel_rfl)) ⟨o307 w.params,_,X 307 _ (by kernel_rfl),rfl⟩ (CC (d22 X lim) (ajV X lim) rfl) B3
theorem agA (X:(Kx w.params).In h) (lim:h.NoLimit):GOK prog w c13 h:=AW (ajW X lim) (BZ X (by kernel_rfl)) ⟨o314 w.params,_,X 314 _ (by kernel_rfl),rfl⟩ (CC (d23 X lim) (ajW X lim) rfl) B3
theorem ajX (X:(Kx w.params).In h) (lim:h.NoLimit):GOK prog w c14 h:=AW (agA X lim) (BZ X (by kernel_rfl)) ⟨o321 w.params,_,X 321 _ (by kernel_rfl),rfl⟩ (CC (d24 X lim) (agA X lim) rfl) B3
theorem agB (X:(Kx w.params).In h) (lim:h.NoLimit):GOK prog w c15 h:=AW (ajX X lim) (BZ X (by kernel_rfl)) ⟨o626 w.params,_,X 626 _ (by kernel_rfl),rfl⟩ (CC (d42 X lim) (ajX X lim) rfl) B3
theorem ajY (X:(Kx w.params).In h) (lim:h.NoLimit):GOK prog w c16 h:=AW (agB X lim) (BZ X (by kernel_rfl)) ⟨o612 w.params,_,X 612 _ (by kernel_rfl),rfl⟩ (CC (d40 X lim) (agB X lim) rfl) B3
theorem ajZ (X:(Kx w.params).In h) (lim:h.NoLimit):GOK prog w c17 h:=AW (ajY X lim) (BZ X (by kernel_rfl)) ⟨o633 w.params,_,X 633 _ (by kernel_rfl),rfl⟩ (CC (d43 X lim) (ajY X lim) rfl) B3
theorem akA (X:(Kx w.params).In h) (lim:h.NoLimit):GOK prog w c18 h:=AW (ajZ X lim) (BZ X (by kernel_rfl)) ⟨o598 w.params,_,X 598 _ (by kernel_rfl),rfl⟩ (DG (d38 X lim) (ajZ X lim) rfl (EI (DI (by kernel_rfl)))) EH
structure HX {α:Type} (x:R α) (P:α→Prop) (X:Prop):Prop where
 out:x.Holds P X
theorem aaZ (f:Str) (v:AV) (P:AV→Prop) (hp:P v) (k:run c18 1 39 ["form"] [.str f]=.ret v):HX (run c18 1 39 ["form"] [.str f]) (fun av=>∃ av',P av'∧Sub prog w av av') False:=by
 rw [k]
 exact ⟨⟨v,hp,GC _⟩⟩
theorem agC (args:List AV) (P:AV→Prop) (h:(aaW args).Holds P False) (all:RV c18 1 39 ["form"] formsL drawL):HX (run c18 1 39 ["form"] args) (fun av=>∃ av',P av'∧Sub prog w av av') False:=
 C3 h fun x ex h=>C8 h fun f ef h=>AX h fun v ev h=>by
  rw [ex,ef]
  exact aaZ f v P h (WV all ev)
theorem P8 (args:List AV) (P:AV→Prop) (h:(aaW args).Holds P False):(run c18 1 39 ["form"] args).Holds (fun av=>∃ av',P av'∧Sub prog w av av') False:=by
 have k0:run c18 1 39 ["form"] [.str "R"]=.ret v_BR:=DI (by kernel_rfl)
 have k1:run c18 1 39 ["form"] [.str "I"]=.ret v_BI:=DI (by kernel_rfl)
 have k2:run c18 1 39 ["form"] [.str "H"]=.ret v_BH:=DI (by kernel_rfl)
 have k3:run c18 1 39 ["form"] [.str "S"]=.ret v_BS:=DI (by kernel_rfl)
 have k4:run c18 1 39 ["form"] [.str "B"]=.ret v_BB:=DI (by kernel_rfl)
 have k5:run c18 1 39 ["form"] [.str "U"]=.ret v_BU:=DI (by kernel_rfl)
 have k6:run c18 1 39 ["form"] [.str "J"]=.ret v_BJ:=DI (by kernel_rfl)
 have k7:run c18 1 39 ["form"] [.str "F"]=.ret v_BF:=DI (by kernel_rfl)
 have k8:run c18 1 39 ["form"] [.str "E"]=.ret v_BE:=DI (by kernel_rfl)
 have all:RV c18 1 39 ["form"] formsL drawL:=And.intro k0 (And.intro k1 (And.intro k2 (And.intro k3 (And.intro k4 (And.intro k5 (And.intro k6 (And.intro k7 (And.intro k8 (trivial)))))))))
 exact (agC args P h all).out
theorem akB (X:(Kx w.params).In h) (lim:h.NoLimit):GOK prog w c19 h:=AW (akA X lim) (BZ X (by kernel_rfl)) ⟨o605 w.params,_,X 605 _ (by kernel_rfl),rfl⟩ (DG (d39 X lim) (akA X lim) rfl P8) PZ
theorem IE {p:Prop} {v:AV} {P:AV→Prop} {X:Prop} (h:(R.need p (R.ret v)).Holds P X):p∧P v:=h
theorem abA (x:AV) (P:AV→Prop) (e:x=HA) (hp:P EY) (k:run c19 1 47 ["rows"] [HA]=.ret EY):HX (run c19 1 47 ["rows"] [x]) (fun av=>∃ av',P av'∧Sub prog w av av') False:=by
 rw [e,k]
 exact ⟨⟨EY,hp,GC _⟩⟩
theorem agD (args:List AV) (P:AV→Prop) (h:(aaX args).Holds P False) (k:run c19 1 47 ["rows"] [HA]=.ret EY):HX (run c19 1 47 ["rows"] args) (fun av=>∃ av',P av'∧Sub prog w av av') False:=
 C3 h fun y ey h=>by
  rw [ey]
  exact abA y P (IE h).1 (IE h).2 k
theorem P9 (args:List AV) (P:AV→Prop) (h:(aaX args).Holds P False):(run c19 1 47 ["rows"] args).Holds (fun av=>∃ av',P av'∧Sub prog w av av') False:=(agD args P h (DI (by kernel_rfl))).out
theorem agE (X:(Kx w.params).In h) (lim:h.NoLimit):GOK prog w c20 h:=AW (akB X lim) (BZ X (by kernel_rfl)) ⟨o657 w.params,_,X 657 _ (by kernel_rfl),rfl⟩ (DG (d47 X lim) (akB X lim) rfl P9) P7
end
end Mine
end
section
open PySem.SeqAt MineH
namespace Mine
section
variable {prog:Program} {w:World} {h:Heap}
noncomputable def S3:Int→List Int→List AV
 | _,[]=>[]
 | v,n :: r=>.sym (v.fmod n) :: S3 (v.fdiv n) r
noncomputable def MU (a s:Int):Int:=(s*48271+11*a+7).fmod 2147483647
def B4 (l:List Int) (a s:Int):Int:=cond (decide (a<l.length)) (l.getD a.toNat 0) (MU a s)
def BI (l:List Int) (a s:Int):Int:=cond (decide (a<l.length)) s (MU a s)
noncomputable def RW:List AV→Option (List Int)
 | []=>some []
 | x :: r=>match BF x,RW r with
  | some (i,_),some m=>some (i :: m)
  | _,_=>none
theorem WW {C:Prop} {α:Type} {v:AV} {k:List Int→R α} {P:α→Prop} {X:Prop} (h:(K1 v k).Holds P X) (K:∀ x,v=.ints x→(k x).Holds P X→C):C:=by
 cases v<;>first | exact h.elim | exact K _ rfl h
theorem CX {α:Type} {v:AV} {k:Int→R α} (K:∀ x,NoExc (k x)):NoExc (G8 v k):=by
 cases v<;>first | exact trivial | exact K _
theorem WX {α:Type} {v:AV} {k:List Int→R α} (K:∀ x,NoExc (k x)):NoExc (K1 v k):=by
 cases v<;>first | exact trivial | exact K _
theorem abB {α:Type} {v:AV} {k:List AV→R α} (K:∀ x,NoExc (k x)):NoExc (J1 v k):=by
 cases v<;>first | exact trivial | exact K _
noncomputable def WY {α:Type} (items:List AV) (k:List Int→AV→AV→R α):R α:=eAny items fun x r=>K1 x fun l=>eAny r fun a r=>eOne r fun s=>k l a s
theorem MV {C:Prop} {α:Type} {l:List AV} {k:List Int→AV→AV→R α} {P:α→Prop} {X:Prop} (h:(WY l k).Holds P X) (K:∀ x a s,l=[.ints x,a,s]→(k x a s).Holds P X→C):C:=
 CO h fun x r e1 h=>WW h fun l e2 h=>CO h fun a r e3 h=>C3 h fun s e4 h=>K l a s (by rw [e1,e2,e3,e4]) h
theorem MW {α:Type} {l:List AV} {k:List Int→AV→AV→R α} (K:∀ x a s,NoExc (k x a s)):NoExc (WY l k):=
 CP fun _ _=>WX fun l=>CP fun a _=>C4 fun s=>K l a s
noncomputable def abC:List AV→List AV→R (List AV×AV):=fun items args=>WY items fun l a s=>eOne args fun z=>J1 z fun sz=>onO (BF a) fun i=>onO (BF s) fun j=>onO (RW sz) fun ns=>
 .need ((0≤i.1∧i.1<1000∧l.length<1000∧0≤j.1∧j.1<2147483648)∧(ns.length=1∨ns.length=4∨ns.length=5)∧∀ n∈ns,0<n∧n<4294967296)
   (.ret ([.ints l,.sym (i.1+1),.sym (BI l i.1 j.1)],.lst (S3 (B4 l i.1 j.1) ns)))
theorem QA (x l:List AV):NoExc (abC x l):=
 MW fun _ _ _=>C4 fun _=>abB fun _=>JK fun _=>JK fun _=>JK fun _=>trivial
theorem WellFn.coerce {G:Heap} {a:Addr} {n:Nat} {sp sp':List AV→List AV→R (List AV×AV)} (h:WellFn prog w G a ⟨n,sp⟩) (hw:∀ (items args:List AV) (P:List AV×AV→Prop),(sp' items args).Holds P False→∃ items' args',(∀ V vs,HasL prog w V [] items vs→HasL prog w V [] items' vs)∧(∀ V vs,HasL prog w V [] args vs→HasL prog w V [] args' vs)∧(sp items' args').Holds P False):WellFn prog w G a ⟨n,sp'⟩:=
 fun X fr s A wa ws m items vs avs P Q E h1 h2 h3 h4 h5 h6 h7 h8 h9 h10 h11 h12 h13=>by
  refine ob23 (hw items avs P h12) fun items' args' c1 c2 c3=>?_
  exact h X fr s A wa ws m items' vs args' P Q E h1 h2 h3 h4 h5 h6 h7 h8 h9 (c1 _ _ h10) (c2 _ _ h11) c3 h13
theorem LJ {V:Vis} {x:AV} {i:Int} {b:Bool} {v:Value} (e:BF x=some (i,b)) (h:Has prog w V [] x v):Has prog w V [] (.sym i) v:=by
 cases x<;>simp only [BF,reduceCtorEq,Option.some.injEq,Prod.mk.injEq] at e
 ·rw [← e.1]; exact h
 ·rw [← e.1]; exact h
theorem WZ {V:Vis}:∀ {l:List AV} {ns:List Int} {vs:List Value},RW l=some ns→HasL prog w V [] l vs→HasL prog w V [] (ns.map .sym) vs
 | [],ns,vs,e,h=>by
  injection e with e
  subst e; exact h
 | x :: l,ns,vs,e,⟨v,r,e1,h1,h2⟩=>by
  simp only [RW] at e
  split at e
  ·rename_i i b m q1 q2
   injection e with e
   subst e
   exact ⟨v,r,e1,LJ q1 h1,WZ q2 h2⟩
  ·cases e
abbrev S5 (l:List Int) (a s:Int) (ns:List AV):R (List AV×AV):=MP c20 0 60 (AC 37) (AE 37) "well" ["sizes"] [.ints l,.sym a,.sym s] [.lst ns]
theorem arB (l:List Int) (a s n:Int):S5 l a s [.sym n]=.need (l.length<2 ^ 62) (.ite (decide (a<l.length))
  (.need (0≤a∧a<l.length∧l.length<2 ^ 62) (.need (n≠0) (.need (n≠0∧n.natAbs<2 ^ 128) (.ret ([.ints l,.sym (a+1),.sym s],.lst [.sym ((l.getD a.toNat 0).fmod n)])))))
  (.need (s.natAbs<2 ^ 64) (.need (a.natAbs<2 ^ 64) (.need (n≠0) (.need (n≠0∧n.natAbs<2 ^ 128) (.ret ([.ints l,.sym (a+1),.sym (MU a s)],.lst [.sym ((MU a s).fmod n)]))))))):=by kernel_rfl
noncomputable def dN (n:Int) (x:R (List AV×AV)):R (List AV×AV):=.need (n≠0) (.need (n≠0∧n.natAbs<2 ^ 128) x)
theorem arC (l:List Int) (a s n1 n2 n3 n4:Int):S5 l a s [.sym n1,.sym n2,.sym n3,.sym n4]=.need (l.length<2 ^ 62) (.ite (decide (a<l.length))
  (.need (0≤a∧a<l.length∧l.length<2 ^ 62) (dN n1 (dN n2 (dN n3 (dN n4 (.ret ([.ints l,.sym (a+1),.sym s],.lst (S3 (l.getD a.toNat 0) [n1,n2,n3,n4]))))))))
  (.need (s.natAbs<2 ^ 64) (.need (a.natAbs<2 ^ 64) (dN n1 (dN n2 (dN n3 (dN n4 (.ret ([.ints l,.sym (a+1),.sym (MU a s)],.lst (S3 (MU a s) [n1,n2,n3,n4])))))))))):=by kernel_rfl
theorem arD (l:List Int) (a s n1 n2 n3 n4 n5:Int):S5 l a s [.sym n1,.sym n2,.sym n3,.sym n4,.sym n5]=.need (l.length<2 ^ 62) (.ite (decide (a<l.length))
  (.need (0≤a∧a<l.length∧l.length<2 ^ 62) (dN n1 (dN n2 (dN n3 (dN n4 (dN n5 (.ret ([.ints l,.sym (a+1),.sym s],.lst (S3 (l.getD a.toNat 0) [n1,n2,n3,n4,n5])))))))))
  (.need (s.natAbs<2 ^ 64) (.need (a.natAbs<2 ^ 64) (dN n1 (dN n2 (dN n3 (dN n4 (dN n5 (.ret ([.ints l,.sym (a+1),.sym (MU a s)],.lst (S3 (MU a s) [n1,n2,n3,n4,n5]))))))))))):=by kernel_rfl
theorem W0 {α:Type} {l:List α} {n:Nat} (h:l.length=n+1):∃ a r,l=a :: r∧r.length=n:=by
 cases l with
 | nil=>exact Nat.noConfusion h
 | cons a r=>exact ⟨a,r,rfl,Nat.succ.inj h⟩
theorem akC {α:Type} {l:List α} (h:l.length=4):∃ a b c d,l=[a,b,c,d]:=
 ob22 (W0 h) fun a r e h=>ob22 (W0 h) fun b r e1 h=>ob22 (W0 h) fun c r e2 h=>ob22 (W0 h) fun d r e3 h=>⟨a,b,c,d,by rw [e,e1,e2,e3,List.eq_nil_of_length_eq_zero h]⟩
theorem arE {α:Type} {l:List α} (h:l.length=5):∃ a b c d e,l=[a,b,c,d,e]:=
 ob22 (W0 h) fun a r e h=>ob41 (akC h) fun b c d f e1=>⟨a,b,c,d,f,by rw [e,e1]⟩
theorem S6 (items args:List AV) (P:List AV×AV→Prop) (hh:(abC items args).Holds P False):∃ items' args',(∀ V vs,HasL prog w V [] items vs→HasL prog w V [] items' vs)∧(∀ V vs,HasL prog w V [] args vs→HasL prog w V [] args' vs)∧(MP c20 0 60 (AC 37) (AE 37) "well" ["sizes"] items' args').Holds P False:=by
 refine MV hh ?_; clear hh; intro l a s ei hh
 refine C3 hh ?_; clear hh; intro z ez hh
 refine IP hh ?_; clear hh; intro sz esz hh
 refine AX hh ?_; clear hh; intro ib e1 hh
 refine AX hh ?_; clear hh; intro jb e2 hh
 refine AX hh ?_; clear hh; intro ns e3 hh
 obtain ⟨i,b1⟩:=ib
 obtain ⟨j,b2⟩:=jb
 rw [ei,ez,esz]
 clear ei ez esz
 (refine ob02 hh ?_; clear hh; intro ζ1 hp; refine ob03 ζ1 ?_; clear ζ1; intro ζ2 hl hn; refine ob05 ζ2 ?_; clear ζ2; intro h1 h2 h3 h4 h5)
 refine ⟨[.ints l,.sym i,.sym j],[.lst (ns.map .sym)],fun V vs q=>ob23 q fun v r q1 q2 q=>ob23 q fun u r' q3 q4 q=>ob23 q fun x r'' q5 q6 q7=>⟨v,r,q1,q2,u,r',q3,LJ e1 q4,x,r'',q5,LJ e2 q6,q7⟩,fun V vs q=>ob23 q fun v r q1 q q3=>ob33 q fun ad us n z1 z2 z3=>⟨v,r,q1,⟨ad,us,n,z1,z2,WZ e3 z3⟩,q3⟩,?_⟩
 have big:l.length<2 ^ 62:=by omega
 have ok:∀ n∈ns,n≠0∧n.natAbs<2 ^ 128:=fun n hn'=>by
  refine ob02 (hn n hn') fun z1 z2=>?_
  omega
 unfold B4 BI at hp
 rcases hl with hl | hl | hl
 ·obtain ⟨n,rfl⟩:=List.length_eq_one_iff.mp hl
  show (S5 l i j [.sym n]).Holds P False
  rw [arB]
  refine ob02 (ok n (by simp)) fun o1 o2=>?_
  refine ⟨big,fun hb=>?_,fun hb=>?_⟩
  ·rw [hb] at hp
   exact ⟨⟨h1,of_decide_eq_true hb,big⟩,o1,⟨o1,o2⟩,hp⟩
  ·rw [hb] at hp
   exact ⟨by omega,by omega,o1,⟨o1,o2⟩,hp⟩
 ·refine ob41 (akC hl) fun n1 n2 n3 n4 en=>?_
  subst en
  show (S5 l i j [.sym n1,.sym n2,.sym n3,.sym n4]).Holds P False
  rw [arC]
  have o1:=ok n1 (by simp)
  have o2:=ok n2 (by simp)
  have o3:=ok n3 (by simp)
  have o4:=ok n4 (by simp)
  refine ⟨big,fun hb=>?_,fun hb=>?_⟩
  ·rw [hb] at hp
   exact ⟨⟨h1,of_decide_eq_true hb,big⟩,o1.1,o1,o2.1,o2,o3.1,o3,o4.1,o4,hp⟩
  ·rw [hb] at hp
   exact ⟨by omega,by omega,o1.1,o1,o2.1,o2,o3.1,o3,o4.1,o4,hp⟩
 ·refine ob51 (arE hl) fun n1 n2 n3 n4 n5 en=>?_
  subst en
  show (S5 l i j [.sym n1,.sym n2,.sym n3,.sym n4,.sym n5]).Holds P False
  rw [arD]
  have o1:=ok n1 (by simp)
  have o2:=ok n2 (by simp)
  have o3:=ok n3 (by simp)
  have o4:=ok n4 (by simp)
  have o5:=ok n5 (by simp)
  refine ⟨big,fun hb=>?_,fun hb=>?_⟩
  ·rw [hb] at hp
   exact ⟨⟨h1,of_decide_eq_true hb,big⟩,o1.1,o1,o2.1,o2,o3.1,o3,o4.1,o4,o5.1,o5,hp⟩
  ·rw [hb] at hp
   exact ⟨by omega,by omega,o1.1,o1,o2.1,o2,o3.1,o3,o4.1,o4,o5.1,o5,hp⟩
theorem agF (X:(Kx w.params).In h) (lim:h.NoLimit):WellFn prog w h 591 ⟨0,abC⟩:=(PX (d37 X lim) (agE X lim) rfl 60).coerce S6
end
end Mine
end
section
namespace Mine
section
theorem BC (a b:Nat):Builtin.bitAnd (a:Int) (b:Int)=((a &&& b:Nat):Int):=by
 unfold Builtin.bitAnd
 rw [decide_eq_true (Int.natCast_nonneg a),decide_eq_true (Int.natCast_nonneg b)]
 rfl
theorem CY (x:Int):Builtin.bitNot x = -x - 1:=by unfold Builtin.bitNot; omega
theorem HL (a b:Nat):Builtin.bitOr (a:Int) (b:Int)=((a ||| b:Nat):Int):=by
 unfold Builtin.bitOr
 rw [CY,CY,CY]
 unfold Builtin.bitAnd
 rw [decide_eq_false (show ¬ (0:Int) ≤ -(a:Int) - 1 from by omega),decide_eq_false (show ¬ (0:Int) ≤ -(b:Int) - 1 from by omega)]
 dsimp only
 rw [CY,CY,CY]
 have h1:(-(-(a:Int) - 1) - 1).toNat=a:=by omega
 have h2:(-(-(b:Int) - 1) - 1).toNat=b:=by omega
 rw [h1,h2]
 omega
theorem W1 (P:Nat→Nat→Prop) (h0:∀ b,P 0 b) (hs:∀ a b,P (a / 2) (b / 2)→P a b):∀ a b,P a b:=by
 intro a
 induction a using Nat.strongRecOn with
 | ind a ih=>
  intro b
  by_cases h:a=0
  ·subst h; exact h0 b
  ·exact hs a b (ih (a / 2) (by omega) (b / 2))
theorem S7:∀ a b:Nat,(a ^^^ b)+(a &&& b)=a ||| b:=by
 refine W1 _ (fun b=>by simp) (fun a b h=>?_)
 have e1:(a ^^^ b)=2*((a / 2) ^^^ (b / 2))+(a ^^^ b) % 2:=by
  rw [← Nat.xor_div_two]; omega
 have e2:(a &&& b)=2*((a / 2) &&& (b / 2))+(a &&& b) % 2:=by
  rw [← Nat.and_div_two]; omega
 have e3:(a ||| b)=2*((a / 2) ||| (b / 2))+(a ||| b) % 2:=by
  rw [← Nat.or_div_two]; omega
 have m1:(a ^^^ b) % 2=(a % 2 ^^^ b % 2):=Nat.xor_mod_two_pow (n:=1)
 have m2:(a &&& b) % 2=(a % 2 &&& b % 2):=Nat.and_mod_two_pow (n:=1)
 have m3:(a ||| b) % 2=(a % 2 ||| b % 2):=Nat.or_mod_two_pow (n:=1)
 have k:∀ x y:Nat,x<2→y<2→(x ^^^ y)+(x &&& y)=(x ||| y):=by
  intro x y hx hy
  match x,y,hx,hy with
  | 0,0,_,_=>rfl
  | 0,1,_,_=>rfl
  | 1,0,_,_=>rfl
  | 1,1,_,_=>rfl
 have kk:=k (a % 2) (b % 2) (by omega) (by omega)
 rw [e1,e2,e3,m1,m2,m3]
 omega
theorem S8 (a b:Nat):Builtin.bitXor (a:Int) (b:Int)=((a ^^^ b:Nat):Int):=by
 unfold Builtin.bitXor
 rw [HL,BC]
 have h:=S7 a b
 omega
theorem IU (a k:Nat):Int.fdiv (a:Int) ((2:Int) ^ k)=((a >>> k:Nat):Int):=by
 rw [Nat.shiftRight_eq_div_pow]
 have:((2:Int) ^ k)=((2 ^ k:Nat):Int):=by push_cast; rfl
 rw [this,Int.fdiv_eq_ediv_of_nonneg _ (Int.natCast_nonneg _)]
 rfl
end
end Mine
end
section
open PySem.SeqAt MineH
namespace Mine
section
abbrev Row:=Nat×Nat×Str
noncomputable def rowsN:List Row:=[(127,55,Str.ofString "lui"),(127,23,Str.ofString "auipc"),(127,111,Str.ofString "jal"),(28799,103,Str.ofString "jalr"),(28799,99,Str.ofString "beq"),(28799,4195,Str.ofString "bne"),(28799,16483,Str.ofString "blt"),(28799,20579,Str.ofString "bge"),(28799,24675,Str.ofString "bltu"),(28799,28771,Str.ofString "bgeu"),(28799,3,Str.ofString "lb"),(28799,4099,Str.ofString "lh"),(28799,8195,Str.ofString "lw"),(28799,16387,Str.ofString "lbu"),(28799,20483,Str.ofString "lhu"),(28799,35,Str.ofString "sb"),(28799,4131,Str.ofString "sh"),(28799,8227,Str.ofString "sw"),(28799,19,Str.ofString "addi"),(28799,8211,Str.ofString "slti"),(28799,12307,Str.ofString "sltiu"),(28799,16403,Str.ofString "xori"),(28799,24595,Str.ofString "ori"),(28799,28691,Str.ofString "andi"),(4261441663,4115,Str.ofString "slli"),(4261441663,20499,Str.ofString "srli"),(4261441663,1073762323,Str.ofString "srai"),(4261441663,51,Str.ofString "add"),(4261441663,1073741875,Str.ofString "sub"),(4261441663,4147,Str.ofString "sll"),(4261441663,8243,Str.ofString "slt"),(4261441663,12339,Str.ofString "sltu"),(4261441663,16435,Str.ofString "xor"),(4261441663,20531,Str.ofString "srl"),(4261441663,1073762355,Str.ofString "sra"),(4261441663,24627,Str.ofString "or"),(4261441663,28723,Str.ofString "and"),(4261441663,33554483,Str.ofString "mul"),(4261441663,33558579,Str.ofString "mulh"),(4261441663,33562675,Str.ofString "mulhsu"),(4261441663,33566771,Str.ofString "mulhu"),(4261441663,33570867,Str.ofString "div"),(4261441663,33574963,Str.ofString "divu"),(4261441663,33579059,Str.ofString "rem"),(4261441663,33583155,Str.ofString "remu"),(4027580415,15,Str.ofString "fence"),(4294967295,115,Str.ofString "ecall"),(4294967295,1048691,Str.ofString "ebreak")]
noncomputable def kN:List Int:=[55,23,111,103,99,4195,16483,20579,24675,28771,3,4099,8195,16387,20483,35,4131,8227,19,8211,12307,16403,24595,28691,4115,20499,1073762323,51,1073741875,4147,8243,12339,16435,20531,1073762355,24627,28723,33554483,33558579,33562675,33566771,33570867,33574963,33579059,33583155,15,115,1048691]
noncomputable def nN:List Str:=[Str.ofString "lui",Str.ofString "auipc",Str.ofString "jal",Str.ofString "jalr",Str.ofString "beq",Str.ofString "bne",Str.ofString "blt",Str.ofString "bge",Str.ofString "bltu",Str.ofString "bgeu",Str.ofString "lb",Str.ofString "lh",Str.ofString "lw",Str.ofString "lbu",Str.ofString "lhu",Str.ofString "sb",Str.ofString "sh",Str.ofString "sw",Str.ofString "addi",Str.ofString "slti",Str.ofString "sltiu",Str.ofString "xori",Str.ofString "ori",Str.ofString "andi",Str.ofString "slli",Str.ofString "srli",Str.ofString "srai",Str.ofString "add",Str.ofString "sub",Str.ofString "sll",Str.ofString "slt",Str.ofString "sltu",Str.ofString "xor",Str.ofString "srl",Str.ofString "sra",Str.ofString "or",Str.ofString "and",Str.ofString "mul",Str.ofString "mulh",Str.ofString "mulhsu",Str.ofString "mulhu",Str.ofString "div",Str.ofString "divu",Str.ofString "rem",Str.ofString "remu",Str.ofString "fence",Str.ofString "ecall",Str.ofString "ebreak"]
noncomputable def opOf (W:Nat):Nat:=W &&& 127
noncomputable def D1 (W:Nat):Nat:=(W >>> 12) &&& 7
noncomputable def clsM (op low:Nat):Nat:=
 if op=55∨op=23∨op=111 then 127 else if op=115 then 4294967295 else if op=15 then 4027580415
 else if op=51∨(op=19∧(low=1∨low=5)) then 4261441663 else 28799
def clsW (W:Nat):Nat:=clsM (opOf W) (D1 W)
theorem RX (op low:Nat):clsM op low=127∨clsM op low=4294967295∨clsM op low=4027580415∨clsM op low=4261441663∨clsM op low=28799:=by
 unfold clsM
 repeat' split
 all_goals simp
theorem agG (W m k:Nat) (h:m &&& k=k):(W &&& m) &&& k=W &&& k:=by rw [Nat.and_assoc,h]
theorem acM {W m:Nat} (h:m &&& 127=127):opOf (W &&& m)=opOf W:=agG W m 127 h
theorem W2 {W m:Nat} (h:(m >>> 12) &&& 7=7):D1 (W &&& m)=D1 W:=by
 unfold D1
 rw [Nat.shiftRight_and_distrib,Nat.and_assoc,h]
theorem agH (W:Nat):clsW (W &&& clsW W)=clsW W:=by
 have hm:=RX (opOf W) (D1 W)
 show clsW (W &&& clsM (opOf W) (D1 W))=clsM (opOf W) (D1 W)
 have hop:opOf (W &&& clsM (opOf W) (D1 W))=opOf W:=by
  rcases hm with h | h | h | h | h<;>rw [h]<;>exact acM (by decide)
 unfold clsW
 rw [hop]
 rcases hm with h | h
 ·have:opOf W=55∨opOf W=23∨opOf W=111:=by
   unfold clsM at h
   repeat' split at h
   all_goals first | assumption | (exfalso; revert h; decide)
  unfold clsM
  rw [if_pos this,if_pos this]
 ·have hl:D1 (W &&& clsM (opOf W) (D1 W))=D1 W:=by
   rcases h with h | h | h | h<;>rw [h]<;>exact W2 (by decide)
  rw [hl]
theorem RY:∀ r∈rowsN,r.1=clsW r.2.1∧r.2.1 &&& r.1=r.2.1:=by decide +kernel
theorem W3:∀ r∈rowsN,EC kN nN ((r.2.1:Nat):Int) (Str.ofString "")=r.2.2:=by decide +kernel
theorem RZ:kN=rowsN.map fun r=>((r.2.1:Nat):Int):=by decide +kernel
def hits (W:Nat) (r:Row):Prop:=W &&& r.1=r.2.1
theorem MX {W:Nat} {r:Row} (hr:r∈rowsN) (h:hits W r):r.1=clsW W∧r.2.1=W &&& clsW W:=by
 refine ob02 (RY r hr) fun e1 e2=>?_
 have h:W &&& r.1=r.2.1:=h
 have hm:=RX (opOf r.2.1) (D1 r.2.1)
 rw [show clsM (opOf r.2.1) (D1 r.2.1)=r.1 from e1.symm] at hm
 have hop:opOf W=opOf r.2.1:=by
  rw [← h]
  rcases hm with q | q | q | q | q<;>rw [q]<;>exact (acM (by decide)).symm
 have hc:clsW W=r.1:=by
  rw [e1]
  unfold clsW
  rw [hop]
  rcases hm with q | q
  ·have:opOf r.2.1=55∨opOf r.2.1=23∨opOf r.2.1=111:=by
    rw [e1] at q
    unfold clsW clsM at q
    repeat' split at q
    all_goals first | assumption | (exfalso; revert q; decide)
   unfold clsM
   rw [if_pos this,if_pos this]
  ·have hl:D1 W=D1 r.2.1:=by
    rw [← h]
    rcases q with q | q | q | q<;>rw [q]<;>exact (W2 (by decide)).symm
   rw [hl]
 exact ⟨hc.symm,by rw [hc,h]⟩
theorem LK {W:Nat} {r:Row} (hr:r∈rowsN) (h:r.2.1=W &&& clsW W):hits W r:=by
 show W &&& r.1=r.2.1
 rw [(RY r hr).1,h,agH]
theorem H5 {x:Int} {d:Str}:∀ {ks:List Int} {vs:List Str},x ∉ ks→EC ks vs x d=d
 | [],_,_=>by unfold EC; rfl
 | _ :: _,[],_=>rfl
 | k :: ks,v :: vs,h=>by
  unfold EC
  rw [decide_eq_false (fun q=>h (by simp [q]))]
  exact H5 fun q=>h (by simp [q])
def W4 (W:Nat):Str:=EC kN nN ((W &&& clsW W:Nat):Int) (Str.ofString "")
theorem W5 {W:Nat} {r:Row} (hr:r∈rowsN) (h:hits W r):W4 W=r.2.2:=by
 unfold W4
 rw [← (MX hr h).2]
 exact W3 r hr
theorem S9 {W:Nat} (h:∀ r∈rowsN,¬ hits W r):W4 W=Str.ofString "" := by
 refine H5 fun q=>?_
 rw [RZ] at q
 refine ob12 (List.mem_map.mp q) fun r hr e=>?_
 exact h r hr (LK hr (by exact_mod_cast e))
noncomputable def HM (w:Int):List Row→R AV
 | []=>.ret (.str (Str.ofString ""))
 | (m,b,n) :: r=>.ite (decide (Builtin.bitAnd w ((m:Nat):Int)=((b:Nat):Int))) (.ret (.str n)) (HM w r)
theorem GL {W:Nat} {P:AV→Prop} {X:Prop}:∀ {l:List Row},(HM (W:Int) l).Holds P X→(∃ r∈l,hits W r∧P (.str r.2.2))∨((∀ r∈l,¬ hits W r)∧P (.str (Str.ofString "")))
 | [],h=>.inr ⟨fun _ h=>(nomatch h),h⟩
 | (m,b,n) :: l,⟨h1,h2⟩=>by
  by_cases q:W &&& m=b
  ·exact .inl ⟨(m,b,n),by simp,q,h1 (decide_eq_true (by rw [BC,q]))⟩
  ·have h2:=h2 (decide_eq_false (by rw [BC]; exact_mod_cast q))
   rcases GL h2 with ⟨r,z1,z2,z3⟩ | ⟨z1,z2⟩
   ·exact .inl ⟨r,by simp [z1],z2,z3⟩
   ·refine .inr ⟨fun r hr=>?_,z2⟩
    rcases List.mem_cons.mp hr with e | e
    ·subst e; exact q
    ·exact z1 r e
theorem MY {W:Nat} {P:AV→Prop} {X:Prop} (h:(HM (W:Int) rowsN).Holds P X):P (.str (W4 W)):=by
 rcases GL h with ⟨r,z1,z2,z3⟩ | ⟨z1,z2⟩
 ·rw [W5 z1 z2]; exact z3
 ·rw [S9 z1]; exact z2
end
end Mine
end
section
open PySem.SeqAt MineH
namespace Mine
section
variable {prog:Program} {w:World} {h:Heap}
noncomputable def agI:List AV→R AV:=fun args=>eOne args fun v=>G8 v fun w=>.need (0≤w∧w<4294967296) (HM w rowsN)
theorem GM (w:Int):∀ l:List Row,NoExc (HM w l)
 | []=>trivial
 | (_,_,_) :: l=>⟨trivial,GM w l⟩
theorem QC (l:List AV):NoExc (agI l):=C4 fun _=>CX fun _=>GM _ _
theorem W6 (w:Int):run c20 0 28 ["word"] [.sym w] =
 .ite (memI (Builtin.bitAnd w 127) [55,23,111])
  (.need (Builtin.bitAnd w 127∈kN) (.ret (.str (EC kN nN (Builtin.bitAnd w 127) ⟨#[]⟩))))
  (.need (true=true) (.ite (Builtin.bitAnd w 127==115) (.ret (.str (EC kN nN w (Str.ofString ""))))
   (.need (true=true) (.ite (Builtin.bitAnd w 127==15)
    (.need (true=true) (.need ((((Builtin.bitAnd w 4027580415==15)=true)→True)∧(((Builtin.bitAnd w 4027580415==15)=false)→True)) (.ret (.str (match Builtin.bitAnd w 4027580415==15 with | true=>Str.ofString "fence" | false=>Str.ofString "")))))
    (.need (true=true) (.need (((Builtin.bitAnd w 127==51)=false)→true=true∧(((Builtin.bitAnd w 127==19)=true)→True)∧True)
     (.ite ((Builtin.bitAnd w 127==51)||((Builtin.bitAnd w 127==19)&&memI (Builtin.bitAnd (w.fdiv (2 ^ (12:Int).toNat)) 7) [1,5]))
      (.ret (.str (EC kN nN (Builtin.bitAnd w 4261441663) (Str.ofString ""))))
      (.ret (.str (EC kN nN (Builtin.bitAnd w 28799) (Str.ofString ""))))))))))):=by kernel_rfl
theorem memI_iff {x:Int}:∀ {l:List Int},memI x l=true↔x∈l
 | []=>by simp [memI]
 | k :: l=>by
  simp only [memI,Bool.or_eq_true,beq_iff_eq,memI_iff (l:=l),List.mem_cons]
  constructor
  ·rintro (h | h)
   ·exact .inl h.symm
   ·exact .inr h
  ·rintro (h | h)
   ·exact .inl h.symm
   ·exact .inr h
theorem QD:∀ x∈([55,23,111]:List Int),EC kN nN x ⟨#[]⟩=EC kN nN x (Str.ofString "")∧x∈kN:=by decide +kernel
theorem abD:EC kN nN 15 (Str.ofString "")=Str.ofString "fence" := by decide +kernel
theorem TB (args:List AV) (P:AV→Prop) (hh:(agI args).Holds P False):(run c20 0 28 ["word"] args).Holds (fun av=>∃ av',P av'∧Sub prog w av av') False:=by
 refine C3 hh ?_; clear hh; intro v ev hh
 refine CL hh ?_; clear hh; intro x ex hh
 rw [ev,ex]
 clear ev ex
 ·(refine ob02 hh ?_; clear hh; intro ζ1 hp; refine ob02 ζ1 ?_; clear ζ1; intro h0 h1)
  (refine ob11 (Int.eq_ofNat_of_zero_le h0) fun W ζ1=>?_; subst ζ1)
  have hW:W<4294967296:=by omega
  have hn:=MY hp
  refine JL ?_
  rw [W6]
  have hop:Builtin.bitAnd (W:Int) 127=((opOf W:Nat):Int):=BC W 127
  have hlow:Builtin.bitAnd (Int.fdiv (W:Int) (2 ^ (12:Int).toNat)) 7=((D1 W:Nat):Int):=by
   rw [show (12:Int).toNat=12 from rfl,IU]
   exact BC _ 7
  have hR:Builtin.bitAnd (W:Int) 4261441663=((W &&& 4261441663:Nat):Int):=BC W 4261441663
  have hI:Builtin.bitAnd (W:Int) 28799=((W &&& 28799:Nat):Int):=BC W 28799
  have hF:Builtin.bitAnd (W:Int) 4027580415=((W &&& 4027580415:Nat):Int):=BC W 4027580415
  rw [hop,hlow,hR,hI,hF]
  have cl:clsW W=clsM (opOf W) (D1 W):=rfl
  unfold W4 at hn
  refine ⟨fun c=>?_,fun c=>⟨rfl,fun c2=>?_,fun c2=>⟨rfl,fun c3=>⟨rfl,⟨fun _=>trivial,fun _=>trivial⟩,?_⟩,fun c3=>⟨rfl,fun _=>⟨rfl,fun _=>trivial,trivial⟩,fun c4=>?_,fun c4=>?_⟩⟩⟩⟩
  ·have c:=memI_iff.mp c
   refine ob02 (QD _ c) fun z1 z2=>?_
   refine ⟨z2,?_⟩
   have:opOf W=55∨opOf W=23∨opOf W=111:=by
    simp only [List.mem_cons,List.not_mem_nil,or_false] at c
    omega
   have e:clsW W=127:=by rw [cl]; unfold clsM; rw [if_pos this]
   rw [e] at hn
   show P _
   rw [z1]; exact hn
  all_goals
   have n1:¬ (opOf W=55∨opOf W=23∨opOf W=111):=fun q=>by
    have:memI ((opOf W:Nat):Int) [55,23,111]=true:=memI_iff.mpr (by
     simp only [List.mem_cons,List.not_mem_nil,or_false]; omega)
    rw [this] at c; cases c
  ·have:opOf W=115:=by have:=eq_of_beq c2; exact_mod_cast this
   have e:clsW W=4294967295:=by rw [cl]; unfold clsM; rw [if_neg n1,if_pos this]
   rw [e] at hn
   have e2:W &&& 4294967295=W:=by
    have:=Nat.and_two_pow_sub_one_eq_mod W 32
    rw [show (2:Nat) ^ 32 - 1=4294967295 from rfl] at this
    rw [this]; exact Nat.mod_eq_of_lt hW
   rw [e2] at hn
   exact hn
  all_goals
   have n2:¬ opOf W=115:=fun q=>by rw [q] at c2; exact absurd c2 (by decide)
  ·have:opOf W=15:=by have:=eq_of_beq c3; exact_mod_cast this
   have e:clsW W=4027580415:=by rw [cl]; unfold clsM; rw [if_neg n1,if_neg n2,if_pos this]
   rw [e] at hn
   show P _
   cases c4:(((W &&& 4027580415:Nat):Int)==15) with
   | true=>
    have:=eq_of_beq c4
    rw [this,abD] at hn
    exact hn
   | false=>
    have ne:((W &&& 4027580415:Nat):Int)≠15:=fun q=>by rw [q] at c4; exact absurd c4 (by decide)
    rw [H5 fun q=>?_] at hn
    ·exact hn
    ·rw [RZ] at q
     refine ob12 (List.mem_map.mp q) fun r hr er=>?_
     have hr':hits W r:=LK hr (by rw [e]; exact_mod_cast er)
     have m1:=(MX hr hr').1
     rw [e] at m1
     have fin:∀ r∈rowsN,r.1=4027580415→r.2.1=15:=by decide +kernel
     have:=fin r hr m1
     rw [this] at er
     exact ne er.symm
  all_goals
   have n3:¬ opOf W=15:=fun q=>by rw [q] at c3; exact absurd c3 (by decide)
  ·have:opOf W=51∨(opOf W=19∧(D1 W=1∨D1 W=5)):=by
    simp only [Bool.or_eq_true,Bool.and_eq_true,beq_iff_eq,memI_iff,List.mem_cons,List.not_mem_nil,or_false] at c4
    omega
   have e:clsW W=4261441663:=by rw [cl]; unfold clsM; rw [if_neg n1,if_neg n2,if_neg n3,if_pos this]
   rw [e] at hn
   exact hn
  ·have:¬ (opOf W=51∨(opOf W=19∧(D1 W=1∨D1 W=5))):=fun q=>by
    have:((((opOf W:Nat):Int)==51)||((((opOf W:Nat):Int)==19)&&memI ((D1 W:Nat):Int) [1,5]))=true:=by
     simp only [Bool.or_eq_true,Bool.and_eq_true,beq_iff_eq,memI_iff,List.mem_cons,List.not_mem_nil,or_false]
     omega
    rw [this] at c4; cases c4
   have e:clsW W=28799:=by rw [cl]; unfold clsM; rw [if_neg n1,if_neg n2,if_neg n3,if_neg this]
   rw [e] at hn
   exact hn
def c21:Ctx:=c20.add "name_of" 0 agI
theorem akD (X:(Kx w.params).In h) (lim:h.NoLimit):GOK prog w c21 h:=AW (agE X lim) (BZ X (by kernel_rfl)) ⟨o539 w.params,_,X 539 _ (by kernel_rfl),rfl⟩ (DG (d28 X lim) (agE X lim) rfl TB) QC
end
end Mine
end
section
open PySem.SeqAt MineH
namespace Mine
section
variable {prog:Program} {w:World} {h:Heap}
noncomputable def sgx (v n:Int):Int:=Builtin.bitAnd v (1*2 ^ n.toNat - 1)
def sgc (v n:Int):Bool:=(sgx v n).fdiv (2 ^ (n - 1).toNat)==1
def sgV (v n:Int):Int:=match sgc v n with | true=>sgx v n - 1*2 ^ n.toNat | false=>sgx v n
noncomputable def sgN (v n:Int) (x:R AV):R AV:=.need (true=true) (.need ((sgc v n=true→True)∧(sgc v n=false→True)) x)
theorem FI {v n:Int} {x:R AV} {P:AV→Prop} {X:Prop} (h:x.Holds P X):(sgN v n x).Holds P X:=⟨rfl,⟨fun _=>trivial,fun _=>trivial⟩,h⟩
noncomputable def sh (w k:Int):Int:=w.fdiv (2 ^ k.toNat)
noncomputable def up (w k:Int):Int:=w*2 ^ k.toNat
def im (w k m:Int):Int:=Builtin.bitAnd (sh w k) m
def ivS (w:Int):Int:=Builtin.bitOr (up (sh w 25) 5) (im w 7 31)
def ivB (w:Int):Int:=Builtin.bitOr (Builtin.bitOr (Builtin.bitOr (up (sh w 31) 12) (up (im w 7 1) 11)) (up (im w 25 63) 5)) (up (im w 8 15) 1)
def ivJ (w:Int):Int:=Builtin.bitOr (Builtin.bitOr (Builtin.bitOr (up (sh w 31) 20) (up (im w 12 255) 12)) (up (im w 20 1) 11)) (up (im w 21 1023) 1)
noncomputable def AB:List Str:=["I","H","S","B","U","J","F"]
def immV (f:Str) (w:Int):Int:=match f==("I" : Str) with
 | true=>sgV (sh w 20) 12
 | false=>match f==("H" : Str) with
  | true=>im w 20 31
  | false=>match f==("S" : Str) with
   | true=>sgV (ivS w) 12
   | false=>match f==("B" : Str) with
    | true=>sgV (ivB w) 13
    | false=>match f==("U" : Str) with
     | true=>sh w 12
     | false=>match f==("J" : Str) with
      | true=>sgV (ivJ w) 21
      | false=>im w 20 255
noncomputable def immS:List AV→R AV:=fun args=>eAny args fun v r=>EB v fun f=>eOne r fun v=>G8 v fun w=>AO (memS f AB) (.need (0≤w∧w<4294967296) (.ret (.sym (immV f w))))
theorem W7 {α:Type} {b:Bool} {x:R α} (h:NoExc x):NoExc (AO b x):=by cases b; exact trivial; exact h
theorem TC (l:List AV):NoExc (immS l):=CP fun _ _=>GB fun _=>C4 fun _=>CX fun _=>W7 trivial
abbrev immE (f:Str) (w:Int):R AV:=run c21 1 23 ["form","word"] [.str f,.sym w]
theorem immI (w:Int):immE "I" w=sgN (sh w 20) 12 (.ret (.sym (sgV (sh w 20) 12))):=by kernel_rfl
theorem immH (w:Int):immE "H" w=.ret (.sym (im w 20 31)):=by kernel_rfl
theorem arF (w:Int):immE "S" w=.need ((sh w 25).natAbs<2 ^ 64) (sgN (ivS w) 12 (.ret (.sym (sgV (ivS w) 12)))):=by kernel_rfl
theorem immB (w:Int):immE "B" w=.need ((sh w 31).natAbs<2 ^ 64) (.need ((im w 7 1).natAbs<2 ^ 64) (.need ((im w 25 63).natAbs<2 ^ 64) (.need ((im w 8 15).natAbs<2 ^ 64) (sgN (ivB w) 13 (.ret (.sym (sgV (ivB w) 13))))))):=by kernel_rfl
theorem immU (w:Int):immE "U" w=.ret (.sym (sh w 12)):=by kernel_rfl
theorem immJ (w:Int):immE "J" w=.need ((sh w 31).natAbs<2 ^ 64) (.need ((im w 12 255).natAbs<2 ^ 64) (.need ((im w 20 1).natAbs<2 ^ 64) (.need ((im w 21 1023).natAbs<2 ^ 64) (sgN (ivJ w) 21 (.ret (.sym (sgV (ivJ w) 21))))))):=by kernel_rfl
theorem immF (w:Int):immE "F" w=.ret (.sym (im w 20 255)):=by kernel_rfl
theorem IF (W:Nat) (k:Nat):sh (W:Int) (k:Int)=((W >>> k:Nat):Int):=by
 unfold sh
 rw [Int.toNat_natCast,IU]
theorem agJ {W:Nat} (hW:W<4294967296) (k:Nat):(sh (W:Int) (k:Int)).natAbs<2 ^ 64:=by
 rw [IF,Int.natAbs_natCast,Nat.shiftRight_eq_div_pow]
 exact Nat.lt_of_le_of_lt (Nat.div_le_self _ _) (by omega)
theorem acN (W:Nat) (k m:Nat):im (W:Int) (k:Int) (m:Int)=(((W >>> k) &&& m:Nat):Int):=by
 unfold im
 rw [IF,BC]
theorem TD (W:Nat) (k m:Nat) (hm:m<4294967296):(im (W:Int) (k:Int) (m:Int)).natAbs<2 ^ 64:=by
 rw [acN,Int.natAbs_natCast]
 exact Nat.lt_of_le_of_lt Nat.and_le_right (by omega)
theorem W8 (args:List AV) (P:AV→Prop) (hh:(immS args).Holds P False):(run c21 1 23 ["form","word"] args).Holds (fun av=>∃ av',P av'∧Sub prog w av av') False:=by
 refine CO hh ?_; clear hh; intro v r ev hh
 refine C8 hh ?_; clear hh; intro f ef hh
 refine C3 hh ?_; clear hh; intro u eu hh
 refine CL hh ?_; clear hh; intro x ex hh
 rw [ev,ef,eu,ex]
 clear ev ef eu ex
 ·(refine ob03 (AA hh) fun hm ζ1 hp=>?_; refine ob02 ζ1 ?_; clear ζ1; intro h0 h1)
  (refine ob11 (Int.eq_ofNat_of_zero_le h0) fun W ζ1=>?_; subst ζ1)
  have hW:W<4294967296:=by omega
  refine JL ?_
  have hp:P (.sym (immV f (W:Int))):=hp
  show (immE f (W:Int)).Holds P False
  simp only [AB,memS] at hm
  repeat' split at hm
  all_goals first | cases hm | skip
  ·rename_i q
   rw [← eq_of_beq q] at hp ⊢
   rw [immI]; exact FI hp
  ·rename_i q
   rw [← eq_of_beq q] at hp ⊢
   rw [immH]; exact hp
  ·rename_i q
   rw [← eq_of_beq q] at hp ⊢
   rw [arF]; exact ⟨agJ hW 25,FI hp⟩
  ·rename_i q
   rw [← eq_of_beq q] at hp ⊢
   rw [immB]; exact ⟨agJ hW 31,TD W 7 1 (by decide),TD W 25 63 (by decide),TD W 8 15 (by decide),FI hp⟩
  ·rename_i q
   rw [← eq_of_beq q] at hp ⊢
   rw [immU]; exact hp
  ·rename_i q
   rw [← eq_of_beq q] at hp ⊢
   rw [immJ]; exact ⟨agJ hW 31,TD W 12 255 (by decide),TD W 20 1 (by decide),TD W 21 1023 (by decide),FI hp⟩
  ·rename_i q
   rw [← eq_of_beq q] at hp ⊢
   rw [immF]; exact hp
def c22:Ctx:=c21.add "imm_of" 1 immS
theorem akE (X:(Kx w.params).In h) (lim:h.NoLimit):GOK prog w c22 h:=AW (akD X lim) (BZ X (by kernel_rfl)) ⟨o314 w.params,_,X 314 _ (by kernel_rfl),rfl⟩ (DG (d23 X lim) (akD X lim) rfl W8) TC
end
end Mine
end
section
open PySem.SeqAt MineH
namespace Mine
section
variable {prog:Program} {w:World} {h:Heap}
abbrev RowF:=Nat×Nat×Str×Str
noncomputable def rowsF:List RowF:=[(127,55,Str.ofString "lui",Str.ofString "U"),(127,23,Str.ofString "auipc",Str.ofString "U"),(127,111,Str.ofString "jal",Str.ofString "J"),(28799,103,Str.ofString "jalr",Str.ofString "I"),(28799,99,Str.ofString "beq",Str.ofString "B"),(28799,4195,Str.ofString "bne",Str.ofString "B"),(28799,16483,Str.ofString "blt",Str.ofString "B"),(28799,20579,Str.ofString "bge",Str.ofString "B"),(28799,24675,Str.ofString "bltu",Str.ofString "B"),(28799,28771,Str.ofString "bgeu",Str.ofString "B"),(28799,3,Str.ofString "lb",Str.ofString "I"),(28799,4099,Str.ofString "lh",Str.ofString "I"),(28799,8195,Str.ofString "lw",Str.ofString "I"),(28799,16387,Str.ofString "lbu",Str.ofString "I"),(28799,20483,Str.ofString "lhu",Str.ofString "I"),(28799,35,Str.ofString "sb",Str.ofString "S"),(28799,4131,Str.ofString "sh",Str.ofString "S"),(28799,8227,Str.ofString "sw",Str.ofString "S"),(28799,19,Str.ofString "addi",Str.ofString "I"),(28799,8211,Str.ofString "slti",Str.ofString "I"),(28799,12307,Str.ofString "sltiu",Str.ofString "I"),(28799,16403,Str.ofString "xori",Str.ofString "I"),(28799,24595,Str.ofString "ori",Str.ofString "I"),(28799,28691,Str.ofString "andi",Str.ofString "I"),(4261441663,4115,Str.ofString "slli",Str.ofString "H"),(4261441663,20499,Str.ofString "srli",Str.ofString "H"),(4261441663,1073762323,Str.ofString "srai",Str.ofString "H"),(4261441663,51,Str.ofString "add",Str.ofString "R"),(4261441663,1073741875,Str.ofString "sub",Str.ofString "R"),(4261441663,4147,Str.ofString "sll",Str.ofString "R"),(4261441663,8243,Str.ofString "slt",Str.ofString "R"),(4261441663,12339,Str.ofString "sltu",Str.ofString "R"),(4261441663,16435,Str.ofString "xor",Str.ofString "R"),(4261441663,20531,Str.ofString "srl",Str.ofString "R"),(4261441663,1073762355,Str.ofString "sra",Str.ofString "R"),(4261441663,24627,Str.ofString "or",Str.ofString "R"),(4261441663,28723,Str.ofString "and",Str.ofString "R"),(4261441663,33554483,Str.ofString "mul",Str.ofString "R"),(4261441663,33558579,Str.ofString "mulh",Str.ofString "R"),(4261441663,33562675,Str.ofString "mulhsu",Str.ofString "R"),(4261441663,33566771,Str.ofString "mulhu",Str.ofString "R"),(4261441663,33570867,Str.ofString "div",Str.ofString "R"),(4261441663,33574963,Str.ofString "divu",Str.ofString "R"),(4261441663,33579059,Str.ofString "rem",Str.ofString "R"),(4261441663,33583155,Str.ofString "remu",Str.ofString "R"),(4027580415,15,Str.ofString "fence",Str.ofString "F"),(4294967295,115,Str.ofString "ecall",Str.ofString "E"),(4294967295,1048691,Str.ofString "ebreak",Str.ofString "E")]
noncomputable def f3 (a b c:Str):List Str:=[a,b,c]
def AZ (f:Str):List Str:=match memS f ["R"] with
 | true=>["rd","rs1","rs2"]
 | false=>match memS f ["I","H"] with
  | true=>["rd","rs1","imm"]
  | false=>match memS f ["S","B"] with
   | true=>["rs1","rs2","imm"]
   | false=>match memS f ["U","J"] with
    | true=>["rd","imm"]
    | false=>match memS f ["F"] with
     | true=>["imm"]
     | false=>[]
def A3 (f:Str) (w:Int) (k:Str):Int:=match k==("rd" : Str) with
 | true=>im w 7 31
 | false=>match k==("rs1" : Str) with
  | true=>im w 15 31
  | false=>match k==("rs2" : Str) with
   | true=>im w 20 31
   | false=>immV f w
def decF (w:Int) (n f:Str):AV:=.tup [.str n,.dS (AZ f) ((AZ f).map fun k=>.sym (A3 f w k))]
noncomputable def decT (w:Int):List RowF→R AV
 | []=>.ret .none
 | (m,b,n,f) :: l=>.ite (decide (Builtin.bitAnd w (m:Int)=(b:Int))) (match memS f AB with
  | true=>.need (0≤w∧w<4294967296) (.ret (decF w n f))
  | false=>.ret (decF w n f)) (decT w l)
noncomputable def decV (w:Int):List RowF→AV
 | []=>.none
 | (m,b,n,f) :: l=>.ite (decide (Builtin.bitAnd w (m:Int)=(b:Int))) (decF w n f) (decV w l)
noncomputable def decS:List AV→R AV:=fun args=>eOne args fun v=>G8 v fun w=>.need (0≤w∧w<4294967296) (.ret (decV w rowsF))
theorem TF (l:List AV):NoExc (decS l):=C4 fun _=>CX fun _=>trivial
theorem abE (w:Int):run c22 2 29 ["word"] [.sym w]=.need (0≤w∧w<4294967296) (decT w rowsF):=by kernel_rfl
theorem LL {x:Int} (hx:0≤x∧x<4294967296):∀ l:List RowF,(decT x l).Holds (fun av=>Sub prog w av (decV x l)) False
 | []=>fun _ _ hv=>hv
 | (m,b,n,f) :: l=>by
  refine ⟨fun e=>?_,fun e=>?_⟩
  ·have:Sub prog w (decF x n f) (decV x ((m,b,n,f) :: l)):=by
    intro V v hv
    exact ⟨fun _=>hv,fun e'=>absurd (e.symm.trans e') Bool.noConfusion⟩
   cases memS f AB with
   | true=>exact ⟨hx,this⟩
   | false=>exact this
  ·refine R.holds_mono (fun av hs=>?_) id (LL hx l)
   intro V v hv
   exact ⟨fun e'=>absurd (e'.symm.trans e) Bool.noConfusion,fun _=>hs _ _ hv⟩
theorem W9 (args:List AV) (P:AV→Prop) (hh:(decS args).Holds P False):(run c22 2 29 ["word"] args).Holds (fun av=>∃ av',P av'∧Sub prog w av av') False:=by
 refine C3 hh fun v ev hh=>CL hh fun x ex hh=>ob02 hh fun hx hp=>?_
 rw [ev,ex,abE]
 exact ⟨hx,R.holds_mono (fun av hs=>⟨_,hp,hs⟩) id (LL hx rowsF)⟩
def c23:Ctx:=c22.add "decode" 2 decS
theorem akF (X:(Kx w.params).In h) (lim:h.NoLimit):GOK prog w c23 h:=AW (akE X lim) (BZ X (by kernel_rfl)) ⟨o546 w.params,_,X 546 _ (by kernel_rfl),rfl⟩ (DG (d29 X lim) (akE X lim) rfl W9) TF
end
end Mine
end
section
open PySem.SeqAt MineH
namespace Mine
section
variable {prog:Program} {w:World} {h:Heap}
noncomputable def rk (w:Int):Nat→Int
 | 0=>w
 | k+1=>(rk w k).fdiv (2 ^ (1:Int).toNat)
def bt (w:Int) (k:Nat):Int:=Builtin.bitAnd (rk w k) 1
noncomputable def IV (w:Int):Nat→Nat→R AV→R AV
 | 0,_,x=>x
 | n+1,k,x=>.need ((bt w k).natAbs<2 ^ 64) (IV w n (k+1) x)
noncomputable def seg:Nat→Nat→Nat→List (Nat×Nat)
 | _,_,0=>[]
 | k,p,n+1=>(k,p) :: seg (k+1) (p+1) n
noncomputable def gath (w:Int):Int→List (Nat×Nat)→Int
 | a,[]=>a
 | a,(k,p) :: l=>gath w (a+bt w k*2 ^ p) l
def DW (f:Str):List (Nat×Nat):=match f==("I" : Str) with
 | true=>seg 20 0 12
 | false=>match f==("H" : Str) with
  | true=>seg 20 0 5
  | false=>match f==("S" : Str) with
   | true=>seg 7 0 5++seg 25 5 7
   | false=>match f==("B" : Str) with
    | true=>seg 7 11 1++seg 8 1 4++seg 25 5 6++seg 31 12 1
    | false=>match f==("U" : Str) with
     | true=>seg 12 0 20
     | false=>match f==("J" : Str) with
      | true=>seg 12 12 8++seg 20 11 1++seg 21 1 10++seg 31 20 1
      | false=>seg 20 0 8
def agK (f:Str) (w s:Int) (k:Str):Int:=match k==("rd" : Str) with
 | true=>gath w 0 (seg 7 0 5)
 | false=>match k==("rs1" : Str) with
  | true=>gath w 0 (seg 15 0 5)
  | false=>match k==("rs2" : Str) with
   | true=>gath w 0 (seg 20 0 5)
   | false=>gath w 0 (DW f) - s
def XA (f:Str) (w:Int) (k:Str):Int:=match k==("rd" : Str) with
 | true=>gath w 0 (seg 7 0 5)
 | false=>match k==("rs1" : Str) with
  | true=>gath w 0 (seg 15 0 5)
  | false=>match k==("rs2" : Str) with
   | true=>gath w 0 (seg 20 0 5)
   | false=>gath w 0 (DW f)
def JM (f:Str) (w:Int):R AV:=.ret (.dS (AZ f) ((AZ f).map fun k=>.sym (XA f w k)))
def R0 (f:Str) (w s:Int):R AV:=.ret (.dS (AZ f) ((AZ f).map fun k=>.sym (agK f w s k)))
def QF (f:Str) (w:Int):R AV:=IV w 32 0 (JM f w)
def XB (f:Str) (w s:Int):R AV:=IV w 32 0 (.need (true=true) (.ite (sh w 31==1) (R0 f w s) (JM f w)))
abbrev IL (f:Str) (d:AV) (w:Int):R AV:=run c23 2 41 ["form","drawing","number"] [.str f,d,.sym w]
theorem akG (w:Int):IL "R" v_BR w=QF "R" w:=by kernel_rfl
theorem akH (w:Int):IL "I" v_BI w=XB "I" w 4096:=by kernel_rfl
theorem akI (w:Int):IL "H" v_BH w=QF "H" w:=by kernel_rfl
theorem akJ (w:Int):IL "S" v_BS w=XB "S" w 4096:=by kernel_rfl
theorem akK (w:Int):IL "B" v_BB w=XB "B" w 8192:=by kernel_rfl
theorem akL (w:Int):IL "U" v_BU w=QF "U" w:=by kernel_rfl
theorem akM (w:Int):IL "J" v_BJ w=XB "J" w 2097152:=by kernel_rfl
theorem akN (w:Int):IL "F" v_BF w=QF "F" w:=by kernel_rfl
theorem akO (w:Int):IL "E" v_BE w=QF "E" w:=by kernel_rfl
end
end Mine
end
section
open PySem.SeqAt MineH
namespace Mine
section
variable {prog:Program} {w:World} {h:Heap}
theorem acO (W:Nat):∀ k,rk (W:Int) k=((W >>> k:Nat):Int)
 | 0=>rfl
 | k+1=>by
  show Int.fdiv (rk W k) (2 ^ (1:Int).toNat)=_
  rw [acO W k,show (1:Int).toNat=1 from rfl,IU,Nat.shiftRight_add]
theorem acP (W k:Nat):bt (W:Int) k=(((W >>> k) % 2:Nat):Int):=by
 unfold bt
 rw [acO,show (1:Int)=((1:Nat):Int) from rfl,BC,Nat.and_one_is_mod]
theorem arG (W k:Nat):(bt (W:Int) k).natAbs<2 ^ 64:=by
 rw [acP,Int.natAbs_natCast]
 exact Nat.lt_trans (Nat.mod_lt _ (by decide)) (by decide)
theorem CK {W:Nat} {x:R AV} {P:AV→Prop} {X:Prop} (hx:x.Holds P X):∀ n k,(IV (W:Int) n k x).Holds P X
 | 0,_=>hx
 | n+1,k=>⟨arG W k,CK hx n (k+1)⟩
noncomputable def fld (W k n:Nat):Nat:=(W >>> k) % 2 ^ n
theorem abF (W k n:Nat):fld W k (n+1)=(W >>> k) % 2+2*fld W (k+1) n:=by
 unfold fld
 rw [Nat.shiftRight_add,Nat.shiftRight_eq_div_pow (W >>> k) 1,Nat.pow_one,Nat.pow_succ',Nat.mod_mul]
theorem CM (w:Int):∀ (l l':List (Nat×Nat)) (a:Int),gath w a (l++l')=gath w (gath w a l) l'
 | [],_,_=>rfl
 | (_,_) :: l,l',_=>CM w l l' _
theorem CE (W:Nat):∀ (n k p:Nat) (a:Int),gath (W:Int) a (seg k p n)=a+((fld W k n*2 ^ p:Nat):Int)
 | 0,k,p,a=>by
  have:fld W k 0=0:=by unfold fld; rw [Nat.pow_zero,Nat.mod_one]
  rw [this,Nat.zero_mul]; exact (Int.add_zero a).symm
 | n+1,k,p,a=>by
  show gath (W:Int) (a+bt W k*2 ^ p) (seg (k+1) (p+1) n)=_
  rw [CE W n (k+1) (p+1),acP,abF,Nat.pow_succ]
  push_cast
  rw [Int.add_mul,Int.add_assoc]
  congr 1
  congr 1
  rw [Int.mul_comm 2,Int.mul_assoc,Int.mul_comm 2]
theorem FJ (W k n:Nat):im (W:Int) (k:Int) ((2 ^ n - 1:Nat):Int)=((fld W k n:Nat):Int):=by
 rw [acN,Nat.and_two_pow_sub_one_eq_mod]; rfl
theorem GN {W:Nat} (hW:W<4294967296) (k n:Nat) (hk:k+n=32):W >>> k=fld W k n:=by
 unfold fld
 rw [Nat.mod_eq_of_lt]
 rw [Nat.shiftRight_eq_div_pow]
 apply Nat.div_lt_of_lt_mul
 rw [← Nat.pow_add,hk]; exact hW
theorem EJ (W k n:Nat):fld W k n<2 ^ n:=Nat.mod_lt _ (Nat.two_pow_pos n)
theorem agL {V n:Nat} (hV:V<2 ^ (n+1)):sgV (V:Int) ((n+1:Nat):Int)=if V / 2 ^ n=1 then (V:Int) - 2 ^ (n+1) else (V:Int):=by
 have e1:sgx (V:Int) ((n+1:Nat):Int)=(V:Int):=by
  unfold sgx
  rw [Int.toNat_natCast]
  have:(1*2 ^ (n+1) - 1:Int)=((2 ^ (n+1) - 1:Nat):Int):=by
   have:=Nat.two_pow_pos (n+1)
   rw [Int.natCast_sub this]; push_cast; omega
  rw [this,BC,Nat.and_two_pow_sub_one_eq_mod,Nat.mod_eq_of_lt hV]
 have e2:sgc (V:Int) ((n+1:Nat):Int)=decide (V / 2 ^ n=1):=by
  unfold sgc
  rw [e1]
  have:(((n+1:Nat):Int) - 1).toNat=n:=by omega
  rw [this,IU,Nat.shiftRight_eq_div_pow]
  have:((((V / 2 ^ n:Nat):Int)==1)=true)↔(decide (V / 2 ^ n=1)=true):=by
   rw [beq_iff_eq,decide_eq_true_iff]; omega
  cases q:decide (V / 2 ^ n=1) with
  | true=>exact this.mpr q
  | false=>
   cases q2:(((V / 2 ^ n:Nat):Int)==1) with
   | true=>rw [this.mp q2] at q; cases q
   | false=>rfl
 unfold sgV
 rw [e1,e2]
 by_cases q:V / 2 ^ n=1
 ·rw [if_pos q,decide_eq_true q,Int.toNat_natCast]; simp only [Int.one_mul]
 ·rw [if_neg q,decide_eq_false q]
theorem LM (A k:Nat):up (A:Int) (k:Int)=((A*2 ^ k:Nat):Int):=by
 unfold up
 rw [Int.toNat_natCast]; push_cast; rfl
theorem acQ {A B k:Nat} (hB:B<2 ^ k):Builtin.bitOr ((A*2 ^ k:Nat):Int) (B:Int)=((A*2 ^ k+B:Nat):Int):=by
 rw [HL,← Nat.shiftLeft_eq,Nat.shiftLeft_add_eq_or_of_lt hB]
theorem agM {W:Nat} (hW:W<4294967296):ivS (W:Int)=((fld W 25 7*2 ^ 5+fld W 7 5:Nat):Int):=by
 have a:=IF W 25
 have b:=FJ W 7 5
 unfold ivS
 rw [show (25:Int)=((25:Nat):Int) from rfl,a,GN hW 25 7 rfl,show im (W:Int) 7 31=_ from b,show (5:Int)=((5:Nat):Int) from rfl,LM,acQ (EJ W 7 5)]
end
end Mine
end
section
open PySem.SeqAt MineH
namespace Mine
section
variable {prog:Program} {w:World} {h:Heap}
theorem R1 {n l k:Nat} (hk:n+l=k) (A B:Nat):A*2 ^ k+B*2 ^ l=(A*2 ^ n+B)*2 ^ l:=by rw [← hk,Nat.pow_add,Nat.add_mul,Nat.mul_assoc]
theorem XC {A B n l k:Nat} (hk:n+l=k) (hB:B<2 ^ n):Builtin.bitOr ((A*2 ^ k:Nat):Int) ((B*2 ^ l:Nat):Int)=(((A*2 ^ n+B)*2 ^ l:Nat):Int):=by
 rw [← R1 hk]
 refine acQ ?_
 rw [← hk,Nat.pow_add]
 exact Nat.mul_lt_mul_of_pos_right hB (Nat.two_pow_pos l)
theorem OS {x y n m k:Nat} (hk:n+m=k) (hx:x<2 ^ n) (hy:y<2 ^ m):x*2 ^ m+y<2 ^ k:=
 Nat.lt_of_lt_of_le (Nat.add_lt_add_left hy _) (by rw [← Nat.succ_mul,← hk,Nat.pow_add]; exact Nat.mul_le_mul_right _ hx)
theorem JN {x y m k l:Nat} (hk:m+k=l) (hy:y<2 ^ m):(x*2 ^ m+y) / 2 ^ l=x / 2 ^ k:=by
 rw [← hk,Nat.pow_add,← Nat.div_div_eq_div_mul,Nat.add_comm,Nat.add_mul_div_right _ _ (Nat.two_pow_pos m),Nat.div_eq_of_lt hy,Nat.zero_add]
theorem R2 (W:Nat) (k n:Nat):(W >>> k) / 2 ^ n=W >>> (k+n):=by rw [Nat.shiftRight_add,Nat.shiftRight_eq_div_pow (W >>> k)]
theorem XE {V n:Nat} {x m:Int} (hx:x=(V:Int)) (hm:m=((n+1:Nat):Int)) (hV:V<2 ^ (n+1)) {c:Prop} [Decidable c] (hc:V / 2 ^ n=1↔c):sgV x m=(V:Int) - (if c then 2 ^ (n+1) else 0):=by
 rw [hx,hm,agL hV]
 by_cases q:c
 ·rw [if_pos (hc.mpr q),if_pos q]
 ·rw [if_neg (fun z=>q (hc.mp z)),if_neg q,Int.sub_zero]
theorem B7 (W k p n:Nat):gath (W:Int) 0 (seg k p n)=((fld W k n*2 ^ p:Nat):Int):=by rw [CE,Int.zero_add]
theorem akP {W:Nat} (hW:W<4294967296):immV "I" (W:Int)=gath (W:Int) 0 (DW "I") - (if W >>> 31=1 then 4096 else 0):=by
 have t:=GN hW 20 12 rfl
 have l:=EJ W 20 12
 have e:=R2 W 20 11
 show sgV (sh (W:Int) 20) 12=gath (W:Int) 0 (seg 20 0 12) - _
 rw [B7,Nat.pow_zero,Nat.mul_one]
 refine XE (n:=11) ?_ rfl l ?_
 ·rw [show sh (W:Int) 20=_ from IF W 20,t]
 ·rw [← t,e]
theorem akQ {W:Nat} (hW:W<4294967296):immV "S" (W:Int)=gath (W:Int) 0 (DW "S") - (if W >>> 31=1 then 4096 else 0):=by
 show sgV (ivS (W:Int)) 12=gath (W:Int) 0 (seg 7 0 5++seg 25 5 7) - _
 rw [CM,B7,CE,← Int.natCast_add,Nat.pow_zero,Nat.mul_one,Nat.add_comm]
 refine XE (n:=11) (agM hW) rfl (OS (n:=7) rfl (EJ W 25 7) (EJ W 7 5)) ?_
 rw [JN (k:=6) rfl (EJ W 7 5),← GN hW 25 7 rfl,R2]
theorem sg4 {x y z t:Int} {a b c d i j k l n m o V:Nat} {I J K L N:Int} (hx:x=(a:Int)) (hy:y=(b:Int)) (hz:z=(c:Int)) (ht:t=(d:Int)) (hI:I=(i:Int)) (hJ:J=(j:Int)) (hK:K=(k:Int)) (hL:L=(l:Int)) (hN:N=((i+1:Nat):Int))
  (e1:n+j=i) (e2:m+k=j) (e3:o+l=k) (ha:a<2 ^ 1) (hb:b<2 ^ n) (hc:c<2 ^ m) (hd:d<2 ^ o) (hV:a*2 ^ i+b*2 ^ j+c*2 ^ k+d*2 ^ l=V) {P:Prop} [Decidable P] (hP:a=1↔P) :
  sgV (Builtin.bitOr (Builtin.bitOr (Builtin.bitOr (up x I) (up y J)) (up z K)) (up t L)) N=(V:Int) - (if P then 2 ^ (i+1) else 0):=by
 subst hx hy hz ht hI hJ hK hL
 have f1:=XC (A:=a) e1 hb
 have f2:=XC (A:=a*2 ^ n+b) e2 hc
 have f3:=XC (A:=(a*2 ^ n+b)*2 ^ m+c) e3 hd
 have g1:=OS rfl ha hb
 have g2:=OS rfl g1 hc
 have g3:=OS rfl g2 hd
 have g4:=OS rfl g3 (Nat.two_pow_pos l)
 rw [Nat.add_zero,show 1+n+m+o+l=i+1 by rw [← e1,← e2,← e3,Nat.add_assoc,Nat.add_assoc,Nat.add_assoc,Nat.add_comm 1]] at g4
 have d4:=JN (x:=((a*2 ^ n+b)*2 ^ m+c)*2 ^ o+d) (l:=i) (k:=o+(m+(n+0))) (by omega) (Nat.two_pow_pos l)
 rw [Nat.add_zero,JN rfl hd,JN rfl hc,JN rfl hb,Nat.pow_zero,Nat.div_one] at d4
 rw [R1 e1,R1 e2,R1 e3] at hV
 rw [hV] at g4 d4 f3
 rw [LM,LM,LM,LM,f1,f2,f3]
 exact XE rfl hN g4 (by rw [d4]; exact hP)
theorem akR (W p1 n1 k1 p2 n2 k2 p3 n3 k3 p4 n4 k4:Nat):gath (W:Int) 0 (((seg k1 p1 n1++seg k2 p2 n2)++seg k3 p3 n3)++seg k4 p4 n4)=((fld W k1 n1*2 ^ p1+fld W k2 n2*2 ^ p2+fld W k3 n3*2 ^ p3+fld W k4 n4*2 ^ p4:Nat):Int):=by
 rw [CM,CM,CM,B7,CE,CE,CE,← Int.natCast_add,← Int.natCast_add,← Int.natCast_add]
theorem arH (a b c d:Nat):a+b+c+d=b+c+d+a:=by omega
theorem akS (a b c d:Nat):a+b+c+d=b+d+c+a:=by omega
theorem akT {W:Nat} (hW:W<4294967296):immV "B" (W:Int)=gath (W:Int) 0 (DW "B") - (if W >>> 31=1 then 8192 else 0):=by
 have t:=GN hW 31 1 rfl
 show sgV (Builtin.bitOr _ _) 13=gath (W:Int) 0 (((seg 7 11 1++seg 8 1 4)++seg 25 5 6)++seg 31 12 1) - _
 rw [akR]
 exact sg4 ((IF W 31).trans (congrArg _ t)) (FJ W 7 1) (FJ W 25 6) (FJ W 8 4) (i:=12) (j:=11) (k:=5) (l:=1) (n:=1) (m:=6) (o:=4) rfl rfl rfl rfl rfl rfl rfl rfl (EJ W 31 1) (EJ W 7 1) (EJ W 25 6) (EJ W 8 4) (akS _ _ _ _) (by rw [t])
theorem akU {W:Nat} (hW:W<4294967296):immV "J" (W:Int)=gath (W:Int) 0 (DW "J") - (if W >>> 31=1 then 2097152 else 0):=by
 have t:=GN hW 31 1 rfl
 show sgV (Builtin.bitOr _ _) 21=gath (W:Int) 0 (((seg 12 12 8++seg 20 11 1)++seg 21 1 10)++seg 31 20 1) - _
 rw [akR]
 exact sg4 ((IF W 31).trans (congrArg _ t)) (FJ W 12 8) (FJ W 20 1) (FJ W 21 10) (i:=20) (j:=12) (k:=11) (l:=1) (n:=8) (m:=1) (o:=10) rfl rfl rfl rfl rfl rfl rfl rfl (EJ W 31 1) (EJ W 12 8) (EJ W 20 1) (EJ W 21 10) (arH _ _ _ _) (by rw [t])
theorem akV (W:Nat):immV "H" (W:Int)=gath (W:Int) 0 (DW "H"):=by
 show im (W:Int) 20 31=gath (W:Int) 0 (seg 20 0 5)
 rw [B7,Nat.pow_zero,Nat.mul_one]; exact FJ W 20 5
theorem akW (W:Nat):immV "F" (W:Int)=gath (W:Int) 0 (DW "F"):=by
 show im (W:Int) 20 255=gath (W:Int) 0 (seg 20 0 8)
 rw [B7,Nat.pow_zero,Nat.mul_one]; exact FJ W 20 8
theorem akX {W:Nat} (hW:W<4294967296):immV "U" (W:Int)=gath (W:Int) 0 (DW "U"):=by
 show sh (W:Int) 12=gath (W:Int) 0 (seg 12 0 20)
 rw [B7,Nat.pow_zero,Nat.mul_one,show sh (W:Int) 12=_ from IF W 12,GN hW 12 20 rfl]
end
end Mine
end
section
open PySem.SeqAt MineH
namespace Mine
section
variable {prog:Program} {w:World} {h:Heap}
def B6 (f:Str) (w:Int):AV:=.dS (AZ f) ((AZ f).map fun k=>.sym (A3 f w k))
noncomputable def abG:List AV→R AV:=fun args=>eAny args fun v r=>EB v fun f=>eAny r fun d r=>eOne r fun v=>G8 v fun w=>onO (D7 formsL drawL f) fun v=>.need (d=v) (.need (0≤w∧w<4294967296) (.ret (B6 f w)))
theorem QG (l:List AV):NoExc (abG l):=CP fun _ _=>GB fun _=>CP fun _ _=>C4 fun _=>CX fun _=>JK fun _=>trivial
theorem DM (W k:Nat):gath (W:Int) 0 (seg k 0 5)=im (W:Int) (k:Int) 31:=by
 rw [B7,Nat.pow_zero,Nat.mul_one]; exact (FJ W k 5).symm
theorem XF {f:Str} {W:Nat} (hi:immV f (W:Int)=gath (W:Int) 0 (DW f)) (k:Str):XA f (W:Int) k=A3 f (W:Int) k:=by
 unfold XA A3
 rw [show gath (W:Int) 0 (seg 7 0 5)=im (W:Int) 7 31 from DM W 7,show gath (W:Int) 0 (seg 15 0 5)=im (W:Int) 15 31 from DM W 15,show gath (W:Int) 0 (seg 20 0 5)=im (W:Int) 20 31 from DM W 20,hi]
 all_goals (cases k==("rd" : Str)<;>cases k==("rs1" : Str)<;>cases k==("rs2" : Str)<;>rfl)
theorem abH {f:Str} {W:Nat} {s:Int} (hi:immV f (W:Int)=gath (W:Int) 0 (DW f) - s) (k:Str):agK f (W:Int) s k=A3 f (W:Int) k:=by
 unfold agK A3
 rw [show gath (W:Int) 0 (seg 7 0 5)=im (W:Int) 7 31 from DM W 7,show gath (W:Int) 0 (seg 15 0 5)=im (W:Int) 15 31 from DM W 15,show gath (W:Int) 0 (seg 20 0 5)=im (W:Int) 20 31 from DM W 20,hi]
 all_goals (cases k==("rd" : Str)<;>cases k==("rs1" : Str)<;>cases k==("rs2" : Str)<;>rfl)
theorem akY {f:Str} {W:Nat} (hi:immV f (W:Int)=gath (W:Int) 0 (DW f)):JM f (W:Int)=.ret (B6 f (W:Int)):=by
 unfold JM B6
 rw [funext fun k=>congrArg AV.sym (XF hi k)]
theorem arI {f:Str} {W:Nat} {s:Int} (hi:immV f (W:Int)=gath (W:Int) 0 (DW f) - s):R0 f (W:Int) s=.ret (B6 f (W:Int)):=by
 unfold R0 B6
 rw [funext fun k=>congrArg AV.sym (abH hi k)]
def OT (f:Str) (d:AV):Prop:=∀ W:Nat,W<4294967296→HX (IL f d (W:Int)) (fun av=>av=B6 f (W:Int)) False
theorem okU {f:Str} {d:AV} (e:∀ w:Int,IL f d w=QF f w) (hi:∀ W:Nat,W<4294967296→immV f (W:Int)=gath (W:Int) 0 (DW f)):OT f d:=fun W hW=>by
 rw [e]
 unfold QF
 rw [akY (hi W hW)]
 exact ⟨CK (P:=fun av=>av=B6 f (W:Int)) (X:=False) (x:=.ret (B6 f (W:Int))) (show B6 f (W:Int)=B6 f (W:Int) from rfl) 32 0⟩
theorem abI {f:Str} {W:Nat} {s:Int} (hi:immV f (W:Int)=gath (W:Int) 0 (DW f) - (if W >>> 31=1 then s else 0)):HX (R.need (true=true) (.ite (sh (W:Int) 31==1) (R0 f (W:Int) s) (JM f (W:Int)))) (fun av=>av=B6 f (W:Int)) False:=by
 have q:(sh (W:Int) 31==1)=true↔W >>> 31=1:=by
  rw [show sh (W:Int) 31=_ from IF W 31,beq_iff_eq]; omega
 refine ⟨rfl,fun c=>?_,fun c=>?_⟩
 ·rw [if_pos (q.mp c)] at hi
  rw [arI hi]; exact rfl
 ·rw [if_neg (fun z=>by rw [q.mpr z] at c; cases c),Int.sub_zero] at hi
  rw [akY hi]; exact rfl
theorem okG {f:Str} {d:AV} {s:Int} (e:∀ w:Int,IL f d w=XB f w s) (hi:∀ W:Nat,W<4294967296→immV f (W:Int)=gath (W:Int) 0 (DW f) - (if W >>> 31=1 then s else 0)):OT f d:=fun W hW=>by
 rw [e]
 exact ⟨CK (abI (hi W hW)).out 32 0⟩
theorem okR:OT "R" v_BR:=fun W hW=>by
 rw [akG]
 refine ⟨CK (P:=fun av=>av=B6 "R" (W:Int)) (X:=False) (x:=JM "R" (W:Int)) ?_ 32 0⟩
 show AV.dS ["rd","rs1","rs2"] [.sym (gath (W:Int) 0 (seg 7 0 5)),.sym (gath (W:Int) 0 (seg 15 0 5)),.sym (gath (W:Int) 0 (seg 20 0 5))]=.dS ["rd","rs1","rs2"] [.sym (im (W:Int) 7 31),.sym (im (W:Int) 15 31),.sym (im (W:Int) 20 31)]
 rw [show gath (W:Int) 0 (seg 7 0 5)=im (W:Int) 7 31 from DM W 7,show gath (W:Int) 0 (seg 15 0 5)=im (W:Int) 15 31 from DM W 15,show gath (W:Int) 0 (seg 20 0 5)=im (W:Int) 20 31 from DM W 20]
theorem okE:OT "E" v_BE:=fun W hW=>by
 rw [akO]
 exact ⟨CK (P:=fun av=>av=B6 "E" (W:Int)) (X:=False) (x:=JM "E" (W:Int)) (show AV.dS [] []=AV.dS [] [] from rfl) 32 0⟩
noncomputable def AllQ (Q:Str→AV→Prop):List Str→List AV→Prop
 | f :: fs,v :: vs=>Q f v∧AllQ Q fs vs
 | _,_=>True
theorem OU {Q:Str→AV→Prop}:∀ {fs:List Str} {vs:List AV} {f:Str} {v:AV},AllQ Q fs vs→D7 fs vs f=some v→Q f v
 | [],_,_,_,_,e=>(nomatch e)
 | _ :: _,[],_,_,_,e=>(nomatch e)
 | k :: ks,u :: us,f,v,⟨h1,h2⟩,e=>by
  exact RU e (fun e1 e2=>by rw [← e1,← e2]; exact h1) (OU h2)
theorem agN:AllQ OT formsL drawL:=
 ⟨okR,okG akH fun _ h=>akP h,okU akI fun W _=>akV W,okG akJ fun _ h=>akQ h,okG akK fun _ h=>akT h,okU akL fun _ h=>akX h,okG akM fun _ h=>akU h,okU akN fun W _=>akW W,okE,trivial⟩
theorem XG {p q:Prop} {v:AV} {P:AV→Prop} {X:Prop} (h:(R.need p (R.need q (R.ret v))).Holds P X):p∧q∧P v:=h
theorem agO (args:List AV) (P:AV→Prop) (hh:HX (abG args) P False):HX (run c23 2 41 ["form","drawing","number"] args) (fun av=>∃ av',P av'∧Sub prog w av av') False:=by
 refine CO hh.out fun v r ev hh=>C8 hh fun f ef hh=>CO hh fun d r' er hh=>C3 hh fun u eu hh=>CL hh fun x ex hh=>AX hh fun v' e hh=>?_
 (refine ob03 (XG hh) fun hd ζ1 hp=>?_; refine ob02 ζ1 ?_; clear ζ1; intro h0 h1)
 refine ob11 (Int.eq_ofNat_of_zero_le h0) fun W hW=>?_
 have r:=OU agN e W (by omega)
 rw [ev,ef,er,eu,ex,hd,hW]
 exact ⟨R.holds_mono (fun av (q:av=_)=>⟨B6 f (W:Int),by rw [← hW]; exact hp,by rw [q]; exact GC _⟩) id r.out⟩
theorem TG (args:List AV) (P:AV→Prop) (hh:(abG args).Holds P False):(run c23 2 41 ["form","drawing","number"] args).Holds (fun av=>∃ av',P av'∧Sub prog w av av') False:=(agO args P ⟨hh⟩).out
def c24:Ctx:=c23.add "_law_read" 2 abG
theorem akZ (X:(Kx w.params).In h) (lim:h.NoLimit):GOK prog w c24 h:=AW (akF X lim) (BZ X (by kernel_rfl)) ⟨o619 w.params,_,X 619 _ (by kernel_rfl),rfl⟩ (DG (d41 X lim) (akF X lim) rfl TG) QG
end
end Mine
end
section
open PySem.SeqAt MineH
namespace Mine
section
variable {prog:Program} {w:World} {h:Heap}
theorem OV {α:Type} {P:α→Prop}:∀ {x:R α},x.Holds P False→(noX x).Holds P False
 | .ret _,h=>h
 | .ite _ _ _,⟨h1,h2⟩=>⟨fun e=>OV (h1 e),fun e=>OV (h2 e)⟩
 | .need _ _,⟨h1,h2⟩=>⟨h1,OV h2⟩
 | .exc,h=>h.elim
 | .fail,h=>h.elim
theorem C5 {α:Type} {x:R α} {P P':α→Prop} {X:Prop} (h:HX x P X) (hp:∀ a,P a→P' a):HX x P' X:=⟨R.holds_mono hp id h.out⟩
theorem CZ {α β:Type} {P:β→Prop} {X:Prop} {f:α→R β} {x:R α} (h:HX x (fun a=>HX (f a) P X) X):HX (x.bind f) P X:=⟨R.holds_bind' (R.holds_mono (fun _ q=>q.out) id h.out)⟩
theorem AK {α:Type} {a:α} {P:α→Prop} {X:Prop} (h:P a):HX (.ret a) P X:=⟨h⟩
theorem AD {α:Type} {p:Prop} {x:R α} {P:α→Prop} {X:Prop} (h1:p) (h2:HX x P X):HX (.need p x) P X:=⟨⟨h1,h2.out⟩⟩
theorem BN {α:Type} {b:Bool} {x y:R α} {P:α→Prop} {X:Prop} (h1:b=true→HX x P X) (h2:b=false→HX y P X):HX (.ite b x y) P X:=⟨⟨fun e=>(h1 e).out,fun e=>(h2 e).out⟩⟩
theorem A1 {α:Type} {x y:R α} {P:α→Prop} {X:Prop} (e:x=y) (h:HX y P X):HX x P X:=⟨e ▸ h.out⟩
theorem alA {α:Type} {x:R α} {P:α→Prop} (h:HX x P False):HX (noX x) P False:=⟨OV h.out⟩
def endF (p:Fl×AEnv×SL):R AV:=match p with
 | (.ret v,_,sl)=>(frzE sl v).bind fun q=>.ret q.2
 | (.nxt,_,_)=>.ret .none
theorem XH {C:Ctx} {d i:Nat} {xs:List Str} {args:List AV} {P:AV→Prop} (hz:Nat.beq args.length xs.length=true)
  (h:HX (BQ C d (AC i) 60 (xs.zip args) (AE i) []) (fun p=>HX (endF p) P False) False) :
  HX (run C d i xs args) P False:=by
 refine alA ?_
 unfold WL
 rw [hz]
 exact CZ h
def agP (C:Ctx) (d n:Nat) (sc:Scope) (r:List Stmt) (p:Fl×AEnv×SL):RS:=match p with
 | (.nxt,env,sl)=>BQ C d sc n env r sl
 | (.ret v,env,sl)=>.ret (.ret v,env,sl)
theorem AR {C:Ctx} {d n:Nat} {sc:Scope} {env:AEnv} {s:Stmt} {r:List Stmt} {sl:SL} {P:Fl×AEnv×SL→Prop} {X:Prop}
  (h:HX (IK C d n sc (BQ C d sc n) env s sl) (fun p=>HX (agP C d n sc r p) P X) X):HX (BQ C d sc (n+1) env (s :: r) sl) P X:=
 CZ h
theorem XI {C:Ctx} {d n:Nat} {sc:Scope} {es:Es} {env:AEnv} {t iter:Expr} {body:List Stmt} {p:Pos} {sl:SL} {v:AV} {items:List AV} {P:Fl×AEnv×SL→Prop} {X:Prop}
  (h1:K2 iter=true) (h2:FA C d n sc env iter sl=.ret (none,v)) (h3:G7 v=true) (h4:SH v=some items)
  (h:HX (J3 sc (fun env sl=>es env body sl) t items env sl) P X):HX (IK C d n sc es env (.For t iter body [] p) sl) P X:=by
 show HX (AO (K2 iter) ((FA C d n sc env iter sl).bind _)) P X
 rw [h1,h2]
 show HX ((frzE sl v).bind _) P X
 unfold frzE
 rw [h3]
 show HX (onO (SH v) fun items=>J3 sc (fun env sl=>es env body sl) t items env sl) P X
 rw [h4]
 exact h
def XK (sc:Scope) (body:AEnv→SL→RS) (t:Expr) (l:List AV) (p:Fl×AEnv×SL):RS:=match p with
 | (.nxt,env₁,sl₁)=>J3 sc body t l env₁ sl₁
 | (.ret v,env₁,sl₁)=>.ret (.ret v,env₁,sl₁)
theorem DH {sc:Scope} {body:AEnv→SL→RS} {t:Expr} {x:AV} {l:List AV} {env env':AEnv} {sl:SL} {P:Fl×AEnv×SL→Prop} {X:Prop} (e:ED sc t x env=some env') (h:HX (body env' sl) (fun p=>HX (XK sc body t l p) P X) X) :
  HX (J3 sc body t (x :: l) env sl) P X:=by
 show HX (match ED sc t x env with | none=>.fail | some env'=>(body env' sl).bind (XK sc body t l)) P X
 rw [e]
 exact CZ h
theorem QH {sc:Scope} {body:AEnv→SL→RS} {t:Expr} {I:AEnv→SL→Prop} {P:Fl×AEnv×SL→Prop} {X:Prop}:∀ {items:List AV} {env:AEnv} {sl:SL},
  (∀ x∈items,∀ env sl,I env sl→∃ env',ED sc t x env=some env'∧HX (body env' sl) (fun p=>match p with | (.nxt,env,sl)=>I env sl | (.ret v,env,sl)=>P (.ret v,env,sl)) X)→(∀ env sl,I env sl→P (.nxt,env,sl)) →
  I env sl→HX (J3 sc body t items env sl) P X
 | [],env,sl,_,h2,hi=>⟨h2 env sl hi⟩
 | x :: l,env,sl,h1,h2,hi=>by
  refine ob12 (h1 x (by simp) env sl hi) fun env' e hb=>?_
  refine DH e (C5 hb fun p hp=>?_)
  match p,hp with
  | (.nxt,env,sl),hp=>exact QH (fun x hx=>h1 x (by simp [hx])) h2 hp
  | (.ret v,env,sl),hp=>exact ⟨hp⟩
theorem alB {C:Ctx} {d n:Nat} {sc:Scope} {env:AEnv} {r:Stmt} {v:AV} {P:AV→Prop} (h:BQ C d sc n env [r] []=.ret (.ret v,env,[])) (hv:G7 v=true) (hp:P v) :
  HX (BQ C d sc n env [r] []) (fun p=>HX (endF p) P False) False:=by
 rw [h]
 refine AK ?_
 show HX ((frzE [] v).bind _) P False
 unfold frzE
 rw [hv]
 exact ⟨hp⟩
end
end Mine
end
section
open PySem.SeqAt MineH
namespace Mine
section
variable {prog:Program} {w:World} {h:Heap}
noncomputable def okB0:R AV→Prop
 | .ret v=>(AQ v).isSome=true
 | .ite c x y=>(c=true→okB0 x)∧(c=false→okB0 y)
 | .need p x=>p∧okB0 x
 | .exc=>False
 | .fail=>False
noncomputable def valB:R AV→Bool
 | .ret v=>(match AQ v with | some (b,_)=>b | none=>false)
 | .ite c x y=>(match c with | true=>valB x | false=>valB y)
 | .need _ x=>valB x
 | .exc=>false
 | .fail=>false
noncomputable def okI0:R AV→Prop
 | .ret v=>(BF v).isSome=true
 | .ite c x y=>(c=true→okI0 x)∧(c=false→okI0 y)
 | .need p x=>p∧okI0 x
 | .exc=>False
 | .fail=>False
noncomputable def valI:R AV→Int
 | .ret v=>(match BF v with | some (i,_)=>i | none=>0)
 | .ite c x y=>(match c with | true=>valI x | false=>valI y)
 | .need _ x=>valI x
 | .exc=>0
 | .fail=>0
structure okB (x:R AV):Prop where
 out:okB0 x
structure okI (x:R AV):Prop where
 out:okI0 x
def joinB (sp:List AV→R AV):List AV→R AV:=fun args=>.need (okB (sp args)) (.ret (.sb (valB (sp args))))
def joinI (sp:List AV→R AV):List AV→R AV:=fun args=>.need (okI (sp args)) (.ret (.sym (valI (sp args))))
theorem JO {sp:List AV→R AV} (l:List AV):NoExc (joinB sp l):=trivial
theorem CQ {sp:List AV→R AV} (l:List AV):NoExc (joinI sp l):=trivial
theorem arJ {V:Vis} {x:AV} {b c:Bool} {v:Value} (e:AQ x=some (b,c)) (h:Has prog w V [] x v):Has prog w V [] (.sb b) v:=by
 cases x<;>simp only [AQ,reduceCtorEq,Option.some.injEq,Prod.mk.injEq] at e
 ·rw [← e.1]; exact h
 ·rw [← e.1]; exact h
theorem HN:∀ {x:R AV},okB0 x→x.Holds (fun av=>Sub prog w av (.sb (valB x))) False
 | .ret v,h=>fun V u hv=>by
  have h:(AQ v).isSome=true:=h
  cases e:AQ v with
  | none=>rw [e] at h; cases h
  | some p=>
   have:valB (.ret v)=p.1:=by show (match AQ v with | some (b,_)=>b | none=>false)=_; rw [e]
   rw [this]
   exact arJ e hv
 | .ite c x y,⟨h1,h2⟩=>by
  refine ⟨fun e=>?_,fun e=>?_⟩
  ·subst e; exact HN (h1 rfl)
  ·subst e; exact HN (h2 rfl)
 | .need p x,⟨h1,h2⟩=>⟨h1,HN h2⟩
 | .exc,h=>h
 | .fail,h=>h
theorem HO:∀ {x:R AV},okI0 x→x.Holds (fun av=>Sub prog w av (.sym (valI x))) False
 | .ret v,h=>fun V u hv=>by
  have h:(BF v).isSome=true:=h
  cases e:BF v with
  | none=>rw [e] at h; cases h
  | some p=>
   have:valI (.ret v)=p.1:=by show (match BF v with | some (b,_)=>b | none=>0)=_; rw [e]
   rw [this]
   exact LJ e hv
 | .ite c x y,⟨h1,h2⟩=>by
  refine ⟨fun e=>?_,fun e=>?_⟩
  ·subst e; exact HO (h1 rfl)
  ·subst e; exact HO (h2 rfl)
 | .need p x,⟨h1,h2⟩=>⟨h1,HO h2⟩
 | .exc,h=>h
 | .fail,h=>h
theorem QI {sp:List AV→R AV} (args:List AV) (P:AV→Prop) (h:(joinB sp args).Holds P False):(sp args).Holds (fun av=>∃ av',P av'∧Sub prog w av av') False:=
 R.holds_mono (fun av hs=>⟨_,h.2,hs⟩) id (HN h.1.out)
theorem QJ {sp:List AV→R AV} (args:List AV) (P:AV→Prop) (h:(joinI sp args).Holds P False):(sp args).Holds (fun av=>∃ av',P av'∧Sub prog w av av') False:=
 R.holds_mono (fun av hs=>⟨_,h.2,hs⟩) id (HO h.1.out)
theorem JP {b:Bool}:∀ {x:R AV},x.Holds (fun av=>∃ s,AQ av=some (b,s)) False→okB0 x∧valB x=b
 | .ret v,⟨s,e⟩=>by
  refine ⟨?_,?_⟩
  ·show (AQ v).isSome=true; rw [e]; rfl
  ·show (match AQ v with | some (b,_)=>b | none=>false)=_; rw [e]
 | .ite c x y,⟨h1,h2⟩=>by
  cases c with
  | true=>have:=JP (h1 rfl); exact ⟨⟨fun _=>this.1,fun e=>(nomatch e)⟩,this.2⟩
  | false=>have:=JP (h2 rfl); exact ⟨⟨fun e=>(nomatch e),fun _=>this.1⟩,this.2⟩
 | .need p x,⟨h1,h2⟩=>have:=JP h2; ⟨⟨h1,this.1⟩,this.2⟩
 | .exc,h=>h.elim
 | .fail,h=>h.elim
theorem JQ {i:Int}:∀ {x:R AV},x.Holds (fun av=>∃ s,BF av=some (i,s)) False→okI0 x∧valI x=i
 | .ret v,⟨s,e⟩=>by
  refine ⟨?_,?_⟩
  ·show (BF v).isSome=true; rw [e]; rfl
  ·show (match BF v with | some (b,_)=>b | none=>0)=_; rw [e]
 | .ite c x y,⟨h1,h2⟩=>by
  cases c with
  | true=>have:=JQ (h1 rfl); exact ⟨⟨fun _=>this.1,fun e=>(nomatch e)⟩,this.2⟩
  | false=>have:=JQ (h2 rfl); exact ⟨⟨fun e=>(nomatch e),fun _=>this.1⟩,this.2⟩
 | .need p x,⟨h1,h2⟩=>have:=JQ h2; ⟨⟨h1,this.1⟩,this.2⟩
 | .exc,h=>h.elim
 | .fail,h=>h.elim
theorem XM {b:Bool} {x:R AV} (h:x.Holds (fun av=>∃ s,AQ av=some (b,s)) False):okB x∧valB x=b:=⟨⟨(JP h).1⟩,(JP h).2⟩
theorem acR {i:Int} {x:R AV} (h:x.Holds (fun av=>∃ s,BF av=some (i,s)) False):okI x∧valI x=i:=⟨⟨(JQ h).1⟩,(JQ h).2⟩
end
end Mine
end
section
open PySem.SeqAt MineH
namespace Mine
section
noncomputable def pk:List (Nat×Nat)→Nat
 | []=>0
 | (n,v) :: l=>v+2 ^ n*pk l
noncomputable def Fit:List (Nat×Nat)→Prop
 | []=>True
 | (n,v) :: l=>v<2 ^ n∧Fit l
noncomputable def agQ:List (Nat×Nat)→List (Nat×Nat)→Prop
 | [],[]=>True
 | (n,_) :: l,(m,_) :: k=>n=m∧agQ l k
 | _,_=>False
noncomputable def zor:List (Nat×Nat)→List (Nat×Nat)→List (Nat×Nat)
 | (n,v) :: l,(_,u) :: m=>(n,v ||| u) :: zor l m
 | _,_=>[]
noncomputable def zand:List (Nat×Nat)→List (Nat×Nat)→List (Nat×Nat)
 | (n,v) :: l,(_,u) :: m=>(n,v &&& u) :: zand l m
 | _,_=>[]
theorem JR {k a:Nat} (A:Nat) (ha:a<2 ^ k):(a+2 ^ k*A) % 2 ^ k=a:=by rw [Nat.add_mul_mod_self_left,Nat.mod_eq_of_lt ha]
theorem H6 {k a:Nat} (A:Nat) (ha:a<2 ^ k):(a+2 ^ k*A) / 2 ^ k=A:=by rw [Nat.add_mul_div_left _ _ (Nat.two_pow_pos k),Nat.div_eq_of_lt ha,Nat.zero_add]
theorem or2 {k a b:Nat} (A B:Nat) (ha:a<2 ^ k) (hb:b<2 ^ k):(a+2 ^ k*A) ||| (b+2 ^ k*B)=(a ||| b)+2 ^ k*(A ||| B):=by
 have h1:((a+2 ^ k*A) ||| (b+2 ^ k*B)) % 2 ^ k=a ||| b:=by rw [Nat.or_mod_two_pow,JR A ha,JR B hb]
 have h2:((a+2 ^ k*A) ||| (b+2 ^ k*B)) / 2 ^ k=A ||| B:=by rw [Nat.or_div_two_pow,H6 A ha,H6 B hb]
 rw [← h1,← h2,Nat.mod_add_div]
theorem and2 {k a b:Nat} (A B:Nat) (ha:a<2 ^ k) (hb:b<2 ^ k):(a+2 ^ k*A) &&& (b+2 ^ k*B)=(a &&& b)+2 ^ k*(A &&& B):=by
 have h1:((a+2 ^ k*A) &&& (b+2 ^ k*B)) % 2 ^ k=a &&& b:=by rw [Nat.and_mod_two_pow,JR A ha,JR B hb]
 have h2:((a+2 ^ k*A) &&& (b+2 ^ k*B)) / 2 ^ k=A &&& B:=by rw [Nat.and_div_two_pow,H6 A ha,H6 B hb]
 rw [← h1,← h2,Nat.mod_add_div]
theorem arK:∀ {l m:List (Nat×Nat)},agQ l m→Fit l→Fit m→pk l ||| pk m=pk (zor l m)
 | [],[],_,_,_=>by simp [pk,zor]
 | (n,v) :: l,(_,u) :: m,⟨rfl,h⟩,⟨h1,h2⟩,⟨h3,h4⟩=>by
  show (v+2 ^ n*pk l) ||| (u+2 ^ n*pk m)=(v ||| u)+2 ^ n*pk (zor l m)
  rw [or2 _ _ h1 h3,arK h h2 h4]
theorem alC:∀ {l m:List (Nat×Nat)},agQ l m→Fit l→Fit m→pk l &&& pk m=pk (zand l m)
 | [],[],_,_,_=>by simp [pk,zand]
 | (n,v) :: l,(_,u) :: m,⟨rfl,h⟩,⟨h1,h2⟩,⟨h3,h4⟩=>by
  show (v+2 ^ n*pk l) &&& (u+2 ^ n*pk m)=(v &&& u)+2 ^ n*pk (zand l m)
  rw [and2 _ _ h1 h3,alC h h2 h4]
theorem MZ (x:Int) (k:Nat):x.fdiv (2 ^ k)=x / 2 ^ k:=Int.fdiv_eq_ediv_of_nonneg _ (Int.le_of_lt (Int.pow_pos (by decide)))
theorem HP (x:Int) (n:Nat):Builtin.bitAnd x ((2 ^ n - 1:Nat):Int)=x % 2 ^ n:=by
 have hp:=Nat.two_pow_pos n
 by_cases h:0≤x
 ·(refine ob11 (Int.eq_ofNat_of_zero_le h) fun X ζ1=>?_; subst ζ1)
  rw [BC,Nat.and_two_pow_sub_one_eq_mod]; push_cast; rfl
 ·unfold Builtin.bitAnd
  rw [decide_eq_false h,decide_eq_true (Int.natCast_nonneg _)]
  dsimp only
  rw [CY,Int.toNat_natCast,Nat.and_comm,Nat.and_two_pow_sub_one_eq_mod]
  obtain ⟨z,hz⟩:∃ z:Nat,x = -(z:Int) - 1:=⟨(-x - 1).toNat,by omega⟩
  subst hz
  have e:(-(-(z:Int) - 1) - 1).toNat=z:=by omega
  rw [e]
  have q:=Nat.div_add_mod z (2 ^ n)
  have l:=Nat.mod_lt z hp
  have:(-(z:Int) - 1) % 2 ^ n=((2 ^ n - 1 - z % 2 ^ n:Nat):Int):=by
   have e1:(-(z:Int) - 1)=((2 ^ n - 1 - z % 2 ^ n:Nat):Int)+(2 ^ n:Int)*(-((z / 2 ^ n:Nat):Int) - 1):=by
    have c:((2 ^ n:Nat):Int)=(2 ^ n:Int):=by push_cast; rfl
    rw [← c]
    generalize hM:(2 ^ n:Nat)=M at *
    generalize hQ:z / M=Q at *
    generalize hR:z % M=Rr at *
    have c2:((M - 1 - Rr:Nat):Int)=(M:Int) - 1 - Rr:=by omega
    rw [c2,Int.mul_sub,Int.mul_neg]
    have:(z:Int)=(M:Int)*Q+Rr:=by exact_mod_cast q.symm
    rw [this]; omega
   rw [e1,Int.add_mul_emod_self_left]
   refine Int.emod_eq_of_lt (Int.natCast_nonneg _) ?_
   have c:((2 ^ n:Nat):Int)=(2 ^ n:Int):=by push_cast; rfl
   rw [← c]; omega
  rw [this]; omega
theorem XN (x:Int) (n:Nat):x % 2 ^ (n+1)=x / 2 ^ n % 2*2 ^ n+x % 2 ^ n:=by
 have hp:(0:Int)<2 ^ n:=Int.pow_pos (by decide)
 have e1:=Int.mul_ediv_add_emod x (2 ^ n)
 have e2:=Int.mul_ediv_add_emod (x / 2 ^ n) 2
 have l1:=Int.emod_nonneg x (Int.ne_of_gt hp)
 have l2:=Int.emod_lt_of_pos x hp
 have l3:=Int.emod_nonneg (x / 2 ^ n) (show (2:Int)≠0 by decide)
 have l4:=Int.emod_lt_of_pos (x / 2 ^ n) (show (0:Int)<2 by decide)
 have:x=(x / 2 ^ n % 2*2 ^ n+x % 2 ^ n)+2 ^ (n+1)*(x / 2 ^ n / 2):=by
  rw [Int.pow_succ]
  generalize hM:(2 ^ n:Int)=M at *
  generalize x / M=q at *
  generalize x % M=r at *
  generalize q / 2=q2 at *
  generalize q % 2=r2 at *
  rw [← e1,← e2,Int.mul_add,Int.mul_comm M r2,← Int.mul_assoc M 2 q2]; omega
 generalize hY:x / 2 ^ n % 2*2 ^ n+x % 2 ^ n=Y at *
 generalize x / 2 ^ n / 2=Z at *
 rw [this,Int.add_mul_emod_self_left]
 refine Int.emod_eq_of_lt ?_ ?_
 ·have:0≤x / 2 ^ n % 2*2 ^ n:=Int.mul_nonneg l3 (Int.le_of_lt hp)
  omega
 ·rw [Int.pow_succ]
  have:x / 2 ^ n % 2*2 ^ n≤1*2 ^ n:=Int.mul_le_mul_of_nonneg_right (by omega) (Int.le_of_lt hp)
  omega
noncomputable def bitV (v:Int) (p:Nat):Int:=Builtin.bitAnd (v.fdiv (2 ^ p)) 1
theorem M0 (v:Int) (p:Nat):bitV v p=v / 2 ^ p % 2:=by
 unfold bitV
 rw [MZ]; exact HP _ 1
noncomputable def lay:Int→List (Int×Nat)→Int
 | a,[]=>a
 | a,(v,p) :: l=>lay (a*2+bitV v p) l
noncomputable def down (v:Int) (p:Nat):Nat→List (Int×Nat)
 | 0=>[]
 | n+1=>(v,p+n) :: down v p n
theorem XO:∀ (l m:List (Int×Nat)) (a:Int),lay a (l++m)=lay (lay a l) m
 | [],_,_=>rfl
 | (_,_) :: l,m,_=>XO l m _
theorem M1 (v:Int) (p:Nat):∀ (n:Nat) (a:Int),lay a (down v p n)=a*2 ^ n+v / 2 ^ p % 2 ^ n
 | 0,a=>by
  show a=a*1+v / 2 ^ p % 1
  rw [Int.emod_one]; omega
 | n+1,a=>by
  show lay (a*2+bitV v (p+n)) (down v p n)=_
  rw [M1 v p n,M0,XN,Int.pow_add,Int.pow_succ,← Int.ediv_ediv_of_nonneg (Int.le_of_lt (Int.pow_pos (by decide)))]
  rw [Int.add_mul,Int.mul_comm (2 ^ n) 2,← Int.mul_assoc]; omega
theorem OW:∀ (l:List (Int×Nat)) (a:Int) (n:Nat),0≤a→a<2 ^ n→0≤lay a l∧lay a l<2 ^ (n+l.length)
 | [],a,n,h1,h2=>⟨h1,h2⟩
 | (v,p) :: l,a,n,h1,h2=>by
  have b:=M0 v p
  have:=OW l (a*2+bitV v p) (n+1) (by omega) (by rw [Int.pow_succ]; omega)
  rw [List.length_cons,show n+(l.length+1)=n+1+l.length by omega]
  exact this
end
end Mine
end
section
open PySem.SeqAt MineH
namespace Mine
section
variable {prog:Program} {w:World} {h:Heap}
noncomputable def keyRows:List (Int×List RowF):=[(55,[(127,55,Str.ofString "lui",Str.ofString "U")]),(23,[(127,23,Str.ofString "auipc",Str.ofString "U")]),(111,[(127,111,Str.ofString "jal",Str.ofString "J")]),(103,[(28799,103,Str.ofString "jalr",Str.ofString "I")]),(99,[(28799,99,Str.ofString "beq",Str.ofString "B"),(28799,4195,Str.ofString "bne",Str.ofString "B"),(28799,16483,Str.ofString "blt",Str.ofString "B"),(28799,20579,Str.ofString "bge",Str.ofString "B"),(28799,24675,Str.ofString "bltu",Str.ofString "B"),(28799,28771,Str.ofString "bgeu",Str.ofString "B")]),(3,[(28799,3,Str.ofString "lb",Str.ofString "I"),(28799,4099,Str.ofString "lh",Str.ofString "I"),(28799,8195,Str.ofString "lw",Str.ofString "I"),(28799,16387,Str.ofString "lbu",Str.ofString "I"),(28799,20483,Str.ofString "lhu",Str.ofString "I")]),(35,[(28799,35,Str.ofString "sb",Str.ofString "S"),(28799,4131,Str.ofString "sh",Str.ofString "S"),(28799,8227,Str.ofString "sw",Str.ofString "S")]),(19,[(28799,19,Str.ofString "addi",Str.ofString "I"),(28799,8211,Str.ofString "slti",Str.ofString "I"),(28799,12307,Str.ofString "sltiu",Str.ofString "I"),(28799,16403,Str.ofString "xori",Str.ofString "I"),(28799,24595,Str.ofString "ori",Str.ofString "I"),(28799,28691,Str.ofString "andi",Str.ofString "I"),(4261441663,4115,Str.ofString "slli",Str.ofString "H"),(4261441663,20499,Str.ofString "srli",Str.ofString "H"),(4261441663,1073762323,Str.ofString "srai",Str.ofString "H")]),(15,[(4027580415,15,Str.ofString "fence",Str.ofString "F")]),(115,[(4294967295,115,Str.ofString "ecall",Str.ofString "E"),(4294967295,1048691,Str.ofString "ebreak",Str.ofString "E")]),(51,[(4261441663,51,Str.ofString "add",Str.ofString "R"),(4261441663,1073741875,Str.ofString "sub",Str.ofString "R"),(4261441663,4147,Str.ofString "sll",Str.ofString "R"),(4261441663,8243,Str.ofString "slt",Str.ofString "R"),(4261441663,12339,Str.ofString "sltu",Str.ofString "R"),(4261441663,16435,Str.ofString "xor",Str.ofString "R"),(4261441663,20531,Str.ofString "srl",Str.ofString "R"),(4261441663,1073762355,Str.ofString "sra",Str.ofString "R"),(4261441663,24627,Str.ofString "or",Str.ofString "R"),(4261441663,28723,Str.ofString "and",Str.ofString "R"),(4261441663,33554483,Str.ofString "mul",Str.ofString "R"),(4261441663,33558579,Str.ofString "mulh",Str.ofString "R"),(4261441663,33562675,Str.ofString "mulhsu",Str.ofString "R"),(4261441663,33566771,Str.ofString "mulhu",Str.ofString "R"),(4261441663,33570867,Str.ofString "div",Str.ofString "R"),(4261441663,33574963,Str.ofString "divu",Str.ofString "R"),(4261441663,33579059,Str.ofString "rem",Str.ofString "R"),(4261441663,33583155,Str.ofString "remu",Str.ofString "R")])]
def tb:List Stmt:=match AE 48 with | (.For _ _ b _ _) :: _=>b | _=>[]
noncomputable def M2 (n f k:Int):Int:=Builtin.bitXor n (1*2 ^ ((f+7*k).fmod 32).toNat)
def drF (f:Str):AV:=(D7 formsL drawL f).getD .none
noncomputable def dueV (c:Int):List RowF→AV→AV
 | [],d=>d
 | (m,b,n,f) :: l,d=>dueV c l (IJ (Builtin.bitAnd c (m:Int)==(b:Int)) (.tup [.str n,B6 f c]) d)
noncomputable def agR (c:Int):List RowF→AV→(AV→RS)→RS
 | [],d,K=>K d
 | (m,b,n,f) :: l,d,K=>.need (true=true) (.need ((Builtin.bitAnd c (m:Int)==(b:Int))=true→drF f=drF f∧(0≤c∧c<4294967296)∧True)
  (agR c l (IJ (Builtin.bitAnd c (m:Int)==(b:Int)) (.tup [.str n,B6 f c]) d) K))
noncomputable def agS (c:Int) (L:List RowF→AV→RS):List (Int×List RowF)→RS
 | []=>L [] .none
 | (k,rows) :: l=>.ite (decide (k=c.fmod 128)) (agR c rows .none (L rows)) (agS c L l)
abbrev J9:AV:=.dS formsL drawL
def tT (n f:Int):AEnv:=[("known_rows",EY),("pictures",J9),("number",.sym n),("first",.sym f)]
noncomputable def abJ:List RowF→Option RowF
 | []=>none
 | [r]=>some r
 | _ :: l=>abJ l
def outE (M:AEnv) (T:AEnv) (c:Int) (k:Int) (rows:List RowF) (d:AV):AEnv:=match abJ rows with
 | none=>([("due",d),("seen",decV c rowsF),("cell",.sym c),("turn",.num k)]:AEnv)++M++T
 | some (m,b,n,f)=>([("due",d),("fixed",.num (b:Int)),("mask",.num (m:Int)),("form",.str f),("name",.str n),("seen",decV c rowsF),("cell",.sym c),("turn",.num k)]:AEnv)++T
def agT (M:AEnv) (T:AEnv) (c:Int) (k:Int) (rows:List RowF) (d:AV):RS:=
 .need ((eqN (und (decV c rowsF)) (und d)).isSome=true) (.ite (!(eqN (und (decV c rowsF)) (und d)).getD false)
  (.ret (.ret (.bool false),outE M T c k rows d,[])) (.ret (.nxt,outE M T c k rows d,[])))
def TH (M:AEnv) (n f k:Int):RS:=.need (0≤(f+7*k).fmod 32∧(f+7*k).fmod 32≤1000000) (.need (0≤M2 n f k∧M2 n f k<4294967296)
 (agS (M2 n f k) (agT M (tT n f) (M2 n f k) k) keyRows))
abbrev abK (M:AEnv) (n f k:Int):RS:=BQ c24 3 (AC 48) 59 (("turn",.num k) :: (M++tT n f)) tb []
theorem arL (n f:Int):abK [] n f 0=TH [] n f 0:=by kernel_rfl
noncomputable def mB (d s c:AV):AEnv:=[("due",d),("seen",s),("cell",c)]
noncomputable def mC (d a b e g s c:AV):AEnv:=[("due",d),("fixed",a),("mask",b),("form",e),("name",g),("seen",s),("cell",c)]
noncomputable def mD (d a b e g s c:AV):AEnv:=[("due",d),("seen",s),("cell",c),("fixed",a),("mask",b),("form",e),("name",g)]
noncomputable def mR (a b e g:AV):AEnv:=[("fixed",a),("mask",b),("form",e),("name",g)]
abbrev IG (k:Int):Prop:=(∀ n f d s c,abK (mB d s c) n f k=TH [] n f k)∧(∀ n f d a b e g s c,abK (mC d a b e g s c) n f k=TH (mR a b e g) n f k)∧(∀ n f d a b e g s c,abK (mD d a b e g s c) n f k=TH (mR a b e g) n f k)
theorem arM:IG 1:=⟨fun n f d s c=>by kernel_rfl,fun n f d a b e g s c=>by kernel_rfl,fun n f d a b e g s c=>by kernel_rfl⟩
theorem arN:IG 2:=⟨fun n f d s c=>by kernel_rfl,fun n f d a b e g s c=>by kernel_rfl,fun n f d a b e g s c=>by kernel_rfl⟩
theorem arO:IG 3:=⟨fun n f d s c=>by kernel_rfl,fun n f d a b e g s c=>by kernel_rfl,fun n f d a b e g s c=>by kernel_rfl⟩
theorem arP:IG 4:=⟨fun n f d s c=>by kernel_rfl,fun n f d a b e g s c=>by kernel_rfl,fun n f d a b e g s c=>by kernel_rfl⟩
theorem arQ:IG 5:=⟨fun n f d s c=>by kernel_rfl,fun n f d a b e g s c=>by kernel_rfl,fun n f d a b e g s c=>by kernel_rfl⟩
theorem arR:IG 6:=⟨fun n f d s c=>by kernel_rfl,fun n f d a b e g s c=>by kernel_rfl,fun n f d a b e g s c=>by kernel_rfl⟩
theorem arS:IG 7:=⟨fun n f d s c=>by kernel_rfl,fun n f d a b e g s c=>by kernel_rfl,fun n f d a b e g s c=>by kernel_rfl⟩
end
end Mine
end
section
open PySem.SeqAt MineH
namespace Mine
section
variable {prog:Program} {w:World} {h:Heap}
noncomputable def hitR (W:Nat) (r:RowF):Bool:=decide (W &&& r.1=r.2.1)
theorem XQ:∀ r∈rowsF,(r.1,r.2.1,r.2.2.1)∈rowsN:=by decide +kernel
theorem TI:∀ r∈rowsF,∀ r'∈rowsF,r.1=r'.1→r.2.1=r'.2.1→r=r':=by decide +kernel
theorem TJ:∀ r∈rowsF,r.1 % 128=127∧r.2.1 % 128=r.2.1 &&& 127:=by decide +kernel
theorem JS:∀ r∈rowsF,(AZ r.2.2.2).Nodup:=by decide +kernel
theorem QK:∀ r∈rowsF,((r.2.1 % 128:Nat):Int)∈keyRows.map (·.1):=by decide +kernel
theorem TK:∀ p∈keyRows,p.2=rowsF.filter fun r=>decide (((r.2.1 % 128:Nat):Int)=p.1):=by decide +kernel
theorem M3 {W:Nat} {r r':RowF} (hr:r∈rowsF) (hr':r'∈rowsF) (h:hitR W r=true) (h':hitR W r'=true):r=r':=by
 have a:=MX (W:=W) (XQ r hr) (show W &&& r.1=r.2.1 from of_decide_eq_true h)
 have b:=MX (W:=W) (XQ r' hr') (show W &&& r'.1=r'.2.1 from of_decide_eq_true h')
 exact TI r hr r' hr' (a.1.trans b.1.symm) (a.2.trans b.2.symm)
theorem acS {W:Nat} {r:RowF} (hr:r∈rowsF) (h:hitR W r=true):r.2.1 % 128=W % 128:=by
 have h:W &&& r.1=r.2.1:=of_decide_eq_true h
 rw [← h,show (128:Nat)=2 ^ 7 from rfl,Nat.and_mod_two_pow,show r.1 % 2 ^ 7=127 from (TJ r hr).1]
 have:=Nat.and_two_pow_sub_one_eq_mod (W % 2 ^ 7) 7
 rw [show (2:Nat) ^ 7 - 1=127 from rfl] at this
 rw [this,Nat.mod_mod]
theorem QM (W m b:Nat):decide (Builtin.bitAnd (W:Int) (m:Int)=(b:Int))=decide (W &&& m=b):=by
 rw [BC]
 by_cases q:W &&& m=b
 ·rw [decide_eq_true q,decide_eq_true (by exact_mod_cast q)]
 ·rw [decide_eq_false q,decide_eq_false (by exact_mod_cast q)]
theorem XR (W m b:Nat):(Builtin.bitAnd (W:Int) (m:Int)==(b:Int))=decide (W &&& m=b):=by
 rw [← QM]; rfl
theorem M4 {W:Nat} {r:RowF}:∀ {l:List RowF},(∀ r'∈l,hitR W r'=true→r'=r)→r∈l→hitR W r=true→und (decV (W:Int) l)=decF (W:Int) r.2.2.1 r.2.2.2
 | [],_,h,_=>(nomatch h)
 | (m,b,n,f) :: l,hu,hr,hh=>by
  show (match decide (Builtin.bitAnd (W:Int) (m:Int)=(b:Int)) with | true=>und (decF (W:Int) n f) | false=>und (decV (W:Int) l))=_
  rw [QM]
  cases q:decide (W &&& m=b) with
  | true=>
   have:=hu (m,b,n,f) (by simp) q
   subst this; rfl
  | false=>
   rcases List.mem_cons.mp hr with e | e
   ·subst e
    have hh:decide (W &&& m=b)=true:=hh
    rw [q] at hh; cases hh
   ·exact M4 (fun r' h'=>hu r' (by simp [h'])) e hh
theorem OX {W:Nat}:∀ {l:List RowF},(∀ r'∈l,hitR W r'=false)→und (decV (W:Int) l)=.none
 | [],_=>rfl
 | (m,b,n,f) :: l,hu=>by
  show (match decide (Builtin.bitAnd (W:Int) (m:Int)=(b:Int)) with | true=>und (decF (W:Int) n f) | false=>und (decV (W:Int) l))=_
  rw [QM,show decide (W &&& m=b)=false from hu (m,b,n,f) (by simp)]
  exact OX fun r' h'=>hu r' (by simp [h'])
theorem OY (b:Bool) (l:List AV) (d:AV):IJ b (.tup l) d=.ite b (.tup l) d:=by unfold IJ; rfl
theorem OZ {W:Nat}:∀ {l:List RowF} {d:AV},(∀ r'∈l,hitR W r'=false)→und (dueV (W:Int) l d)=und d
 | [],_,_=>rfl
 | (m,b,n,f) :: l,d,hu=>by
  show und (dueV (W:Int) l (IJ (Builtin.bitAnd (W:Int) (m:Int)==(b:Int)) (.tup [.str n,B6 f (W:Int)]) d))=_
  rw [OZ fun r' h'=>hu r' (by simp [h']),OY,XR,show decide (W &&& m=b)=false from hu (m,b,n,f) (by simp)]
  rfl
theorem R3 {W:Nat} {r:RowF}:∀ {l:List RowF} {d:AV},(∀ r'∈l,hitR W r'=true→r'=r)→(r∈l∨und d=decF (W:Int) r.2.2.1 r.2.2.2)→hitR W r=true→und (dueV (W:Int) l d)=decF (W:Int) r.2.2.1 r.2.2.2
 | [],_,_,h,_=>h.resolve_left (by simp)
 | (m,b,n,f) :: l,d,hu,hr,hh=>by
  show und (dueV (W:Int) l (IJ (Builtin.bitAnd (W:Int) (m:Int)==(b:Int)) (.tup [.str n,B6 f (W:Int)]) d))=_
  refine R3 (fun r' h'=>hu r' (by simp [h'])) ?_ hh
  rw [OY,XR]
  cases q:decide (W &&& m=b) with
  | true=>
   have:=hu (m,b,n,f) (by simp) q
   subst this
   exact .inr rfl
  | false=>
   rcases hr with hr | hr
   ·rcases List.mem_cons.mp hr with e | e
    ·subst e
     have hh:decide (W &&& m=b)=true:=hh
     rw [q] at hh; cases hh
    ·exact .inl e
   ·exact .inr hr
theorem O0 (g:Str→Int):∀ ks:List Str,eqFL (ks.map fun k=>.sym (g k)) (ks.map fun k=>.sym (g k))=some true
 | []=>rfl
 | k :: ks=>by
  show ((some (g k==g k)).bind fun b=>(eqFL (ks.map fun k=>.sym (g k)) (ks.map fun k=>.sym (g k))).bind fun c=>some (b&&c))=_
  rw [O0 g ks,beq_self_eq_true]; rfl
theorem R4 {a b c d:AV} (h1:eqG (und a) (und c)=some true) (h2:eqG (und b) (und d)=some true):eqGL [a,b] [c,d]=some true:=by
 show ((eqG (und a) (und c)).bind fun x=>((eqG (und b) (und d)).bind fun y=>(eqGL [] []).bind fun z=>some (y&&z)).bind fun y=>some (x&&y))=_
 rw [h1,h2]; rfl
theorem agU {w:Int} {n f:Str} (hn:(AZ f).Nodup):eqN (decF w n f) (decF w n f)=some true:=by
 show eqGL [.str n,.dS (AZ f) ((AZ f).map fun k=>.sym (A3 f w k))] [.str n,.dS (AZ f) ((AZ f).map fun k=>.sym (A3 f w k))]=_
 have e1:eqG (.str n) (.str n)=some true:=by
  show some (n==n)=_
  rw [beq_self_eq_true]
 have e2:eqG (.dS (AZ f) ((AZ f).map fun k=>.sym (A3 f w k))) (.dS (AZ f) ((AZ f).map fun k=>.sym (A3 f w k)))=some true:=by
  show (match decide (AZ f=AZ f∧(AZ f).Nodup) with | true=>eqFL ((AZ f).map fun k=>.sym (A3 f w k)) ((AZ f).map fun k=>.sym (A3 f w k)) | false=>none)=_
  rw [decide_eq_true ⟨rfl,hn⟩]
  exact O0 _ _
 exact R4 e1 e2
theorem agV {W:Nat} {rows:List RowF} (hr:∀ r∈rows,r∈rowsF) (ha:∀ r∈rowsF,hitR W r=true→r∈rows):eqN (und (decV (W:Int) rowsF)) (und (dueV (W:Int) rows .none))=some true:=by
 by_cases q:∃ r∈rowsF,hitR W r=true
 ·(refine ob12 q ?_; clear q; intro r h1 h2)
  rw [M4 (fun r' h' e=>M3 h' h1 e h2) h1 h2,R3 (fun r' h' e=>M3 (hr r' h') h1 e h2) (.inl (ha r h1 h2)) h2]
  exact agU (JS r h1)
 ·have no:∀ r∈rowsF,hitR W r=false:=fun r h=>by
   cases e:hitR W r with
   | false=>rfl
   | true=>exact (q ⟨r,h,e⟩).elim
  rw [OX no,OZ fun r h=>no r (hr r h)]
  rfl
theorem JT {c:Int} (hc:0≤c∧c<4294967296) {K:AV→RS} {P:Fl×AEnv×SL→Prop} {X:Prop}:∀ {l:List RowF} {d:AV},(K (dueV c l d)).Holds P X→(agR c l d K).Holds P X
 | [],_,h=>h
 | (_,_,_,_) :: _,_,h=>⟨rfl,fun _=>⟨rfl,hc,trivial⟩,JT hc h⟩
theorem JU {c:Int} (hc:0≤c∧c<4294967296) {L:List RowF→AV→RS} {P:Fl×AEnv×SL→Prop} {X:Prop}:∀ {l:List (Int×List RowF)},(∀ p∈l,p.1=c.fmod 128→(L p.2 (dueV c p.2 .none)).Holds P X)→((∀ p∈l,p.1≠c.fmod 128)→(L [] .none).Holds P X)→(agS c L l).Holds P X
 | [],_,h=>h fun p hp=>(nomatch hp)
 | (k,rows) :: l,h1,h2=>⟨fun e=>JT hc (h1 (k,rows) (by simp) (of_decide_eq_true e)),fun e=>JU hc (fun p hp=>h1 p (by simp [hp])) fun hn=>h2 fun p hp=>by
  rcases List.mem_cons.mp hp with q | q
  ·subst q; exact of_decide_eq_false e
  ·exact hn p q⟩
def XS (T:AEnv) (env:AEnv):Prop:=(∃ d s c t,env=([("due",d),("seen",s),("cell",c),("turn",t)]:AEnv)++T)
 ∨ (∃ d a b e g s c t,env=([("due",d),("fixed",a),("mask",b),("form",e),("name",g),("seen",s),("cell",c),("turn",t)]:AEnv)++T)
 ∨ (∃ d a b e g s c t,env=([("due",d),("seen",s),("cell",c),("turn",t),("fixed",a),("mask",b),("form",e),("name",g)]:AEnv)++T)
theorem TL {N:Nat} {f k:Int} {M T:AEnv} {P:Fl×AEnv×SL→Prop} (hN:N<4294967296) (hT:T=tT (N:Int) f)
  (hP:∀ c rows d,P (.nxt,outE M T c k rows d,[])):(TH M (N:Int) f k).Holds P False:=by
 subst hT
 have hm:0≤(f+7*k).fmod 32∧(f+7*k).fmod 32<32:=by
  rw [Int.fmod_eq_emod_of_nonneg _ (by decide)]; omega
 refine ob11 (Int.eq_ofNat_of_zero_le hm.1) fun j hj=>?_
 have hj32:j<32:=by omega
 have hc:M2 (N:Int) f k=((N ^^^ 2 ^ j:Nat):Int):=by
  unfold M2
  rw [hj,Int.toNat_natCast,Int.one_mul,show ((2:Int) ^ j)=((2 ^ j:Nat):Int) by push_cast; rfl,S8]
 have hlt:N ^^^ 2 ^ j<4294967296:=Nat.xor_lt_two_pow (n:=32) hN (Nat.pow_lt_pow_right (by decide) hj32)
 have hr:0≤M2 (N:Int) f k∧M2 (N:Int) f k<4294967296:=by rw [hc]; omega
 refine ⟨⟨hm.1,by omega⟩,hr,?_⟩
 generalize hC:M2 (N:Int) f k=c at *
 generalize hW:N ^^^ 2 ^ j=W at *
 have fin:∀ rows:List RowF,(∀ r∈rows,r∈rowsF)→(∀ r∈rowsF,hitR W r=true→r∈rows)→(agT M (tT (N:Int) f) c k rows (dueV c rows .none)).Holds P False:=fun rows h1 h2=>by
  have e:=agV h1 h2
  rw [← hc] at e
  unfold agT
  rw [e]
  exact ⟨rfl,fun q=>(nomatch q),fun _=>hP c rows _⟩
 have fm:c.fmod 128=((W % 128:Nat):Int):=by
  rw [hc,Int.fmod_eq_emod_of_nonneg _ (by decide)]; rfl
 refine JU hr (fun p hp e=>?_) fun hn=>?_
 ·have ek:=TK p hp
  refine fin p.2 (fun r h=>?_) (fun r h1 h2=>?_)
  ·rw [ek] at h; exact (List.mem_filter.mp h).1
  ·rw [ek]
   refine List.mem_filter.mpr ⟨h1,decide_eq_true ?_⟩
   rw [acS h1 h2,e,fm]
 ·refine fin [] (fun r h=>(nomatch h)) (fun r h1 h2=>?_)
  refine ob12 (List.mem_map.mp (QK r h1)) fun p hp e=>?_
  exact (hn p hp (by rw [e,acS h1 h2,fm])).elim
end
end Mine
end
section
open PySem.SeqAt MineH
namespace Mine
section
variable {prog:Program} {w:World} {h:Heap}
noncomputable def forP:Stmt→Expr×Expr×List Stmt×Pos
 | .For t i b _ p=>(t,i,b,p)
 | _=>(.Name "" ⟨0,0,0,0⟩,.Name "" ⟨0,0,0,0⟩,[],⟨0,0,0,0⟩)
noncomputable def stAt (l:List Stmt) (n:Nat):Stmt:=(l[n]?).getD (.Pass ⟨0,0,0,0⟩)
abbrev f48:Expr×Expr×List Stmt×Pos:=forP (stAt (AE 48) 0)
theorem alD:AE 48=[.For f48.1 f48.2.1 tb [] f48.2.2.2,stAt (AE 48) 1]:=by kernel_rfl
theorem arT (env:AEnv):BQ c24 3 (AC 48) 59 env [stAt (AE 48) 1] []=.ret (.ret (.bool true),env,[]):=by kernel_rfl
theorem alE (env:AEnv) (h:env.lookup ("range" : Str)=none):FA c24 3 59 (AC 48) env f48.2.1 []=.ret (none,.rng 0 8 1):=by
 have:FA c24 3 59 (AC 48) env f48.2.1 []=(match env.lookup ("range" : Str) with | some _=>.fail | none=>.ret (none,.rng 0 8 1)):=by kernel_rfl
 rw [this,h]
abbrev tE (k:Int) (M:AEnv) (n f:Int):AEnv:=("turn",.num k) :: (M++tT n f)
noncomputable def ns8:List AV:=[.num 1,.num 2,.num 3,.num 4,.num 5,.num 6,.num 7]
theorem arU (n f k:Int):ED (AC 48) f48.1 (.num k) (tT n f)=some (tE k (([]:AEnv)) n f):=by kernel_rfl
theorem arV (n f k:Int) (d s c t:AV):ED (AC 48) f48.1 (.num k) (([("due",d),("seen",s),("cell",c),("turn",t)]:AEnv)++tT n f)=some (tE k (mB d s c) n f):=by kernel_rfl
theorem arW (n f k:Int) (d a b e g s c t:AV):ED (AC 48) f48.1 (.num k) (([("due",d),("fixed",a),("mask",b),("form",e),("name",g),("seen",s),("cell",c),("turn",t)]:AEnv)++tT n f)=some (tE k (mC d a b e g s c) n f):=by kernel_rfl
theorem arX (n f k:Int) (d a b e g s c t:AV):ED (AC 48) f48.1 (.num k) (([("due",d),("seen",s),("cell",c),("turn",t),("fixed",a),("mask",b),("form",e),("name",g)]:AEnv)++tT n f)=some (tE k (mD d a b e g s c) n f):=by kernel_rfl
theorem JV (T:AEnv) (c k:Int) (rows:List RowF) (d:AV):XS T (outE [] T c k rows d):=by
 unfold outE
 cases abJ rows with
 | none=>exact .inl ⟨_,_,_,_,rfl⟩
 | some r=>exact .inr (.inl ⟨_,_,_,_,_,_,_,_,rfl⟩)
theorem JW (T:AEnv) (a b e g:AV) (c k:Int) (rows:List RowF) (d:AV):XS T (outE (mR a b e g) T c k rows d):=by
 unfold outE
 cases abJ rows with
 | none=>exact .inr (.inr ⟨_,_,_,_,_,_,_,_,rfl⟩)
 | some r=>exact .inr (.inl ⟨_,_,_,_,_,_,_,_,rfl⟩)
theorem arY:∀ x∈ns8,∃ k,x=.num k∧IG k:=by
 intro x hx
 simp only [ns8,List.mem_cons,List.not_mem_nil,or_false] at hx
 rcases hx with q | q | q | q | q | q | q<;>subst q
 ·exact ⟨1,rfl,arM⟩
 ·exact ⟨2,rfl,arN⟩
 ·exact ⟨3,rfl,arO⟩
 ·exact ⟨4,rfl,arP⟩
 ·exact ⟨5,rfl,arQ⟩
 ·exact ⟨6,rfl,arR⟩
 ·exact ⟨7,rfl,arS⟩
theorem M5 {N:Nat} {f k:Int} {M T:AEnv} {P:Fl×AEnv×SL→Prop} (hN:N<4294967296) (hT:T=tT (N:Int) f)
  (hP:∀ c rows d,P (.nxt,outE M T c k rows d,[])):HX (TH M (N:Int) f k) P False:=⟨TL hN hT hP⟩
theorem O1 {N:Nat} (hN:N<4294967296) (f:Int):HX (run c24 3 48 ["known_rows","pictures","number","first"] [EY,J9,.sym (N:Int),.sym f]) (fun av=>av=.bool true) False:=by
 refine XH (by kernel_rfl) ?_
 rw [alD]
 refine AR (XI (v:=.rng 0 8 1) (items:=.num 0 :: ns8) (by kernel_rfl) (alE _ (by kernel_rfl)) (by kernel_rfl) (by kernel_rfl) ?_)
 refine DH (arU (N:Int) f 0) ?_
 refine A1 (arL _ _) (M5 hN rfl fun c rows d=>?_)
 refine QH (I:=fun env sl=>sl=[]∧XS (tT (N:Int) f) env) (fun x hx env sl hi=>?_) (fun env sl hi=>?_) ⟨rfl,JV _ _ _ _ _⟩
 ·(refine ob02 hi ?_; clear hi; intro hs hi)
  subst hs
  refine ob14 (arY x hx) fun k hk t1 t2 t3=>?_
  subst hk
  rcases hi with ⟨d,s,c,t,e⟩ | ⟨d,a,b,e',g,s,c,t,e⟩ | ⟨d,a,b,e',g,s,c,t,e⟩<;>subst e
  ·exact ⟨_,arV _ _ _ _ _ _ _,A1 (t1 _ _ _ _ _) (M5 hN rfl fun c rows d=>⟨rfl,JV _ _ _ _ _⟩)⟩
  ·exact ⟨_,arW _ _ _ _ _ _ _ _ _ _ _,A1 (t2 _ _ _ _ _ _ _ _ _) (M5 hN rfl fun c rows d=>⟨rfl,JW _ _ _ _ _ _ _ _ _⟩)⟩
  ·exact ⟨_,arX _ _ _ _ _ _ _ _ _ _ _,A1 (t3 _ _ _ _ _ _ _ _ _) (M5 hN rfl fun c rows d=>⟨rfl,JW _ _ _ _ _ _ _ _ _⟩)⟩
 ·(refine ob02 hi ?_; clear hi; intro hs _)
  subst hs
  exact alB (arT env) rfl rfl
theorem PureFn.coerce {G:Heap} {a:Addr} {n:Nat} {sp sp':List AV→R AV} (h:PureFn prog w G a ⟨n,sp⟩) (hw:∀ (args:List AV) (P:AV→Prop),HX (sp' args) P False→∃ args',(∀ V vs,HasL prog w V [] args vs→HasL prog w V [] args' vs)∧HX (sp args') (fun av=>∃ av',P av'∧Sub prog w av av') False):PureFn prog w G a ⟨n,sp'⟩:=
 fun X fr s A vs avs P Q E h1 h2 h3 h4 h5 h6 h7 h8 h9=>by
  refine ob12 (hw avs P ⟨h8⟩) fun args' c1 c2=>?_
  exact h X fr s A vs args' _ Q E h1 h2 h3 h4 h5 h6 (c1 _ _ h7) c2.out fun v s' av g hh ⟨av',hp,hs⟩=>h9 v s' av' g (hs _ v hh) hp
noncomputable def agW:List AV→R AV:=fun args=>eAny args fun a r=>eAny r fun p r=>eAny r fun n r=>eOne r fun f=>onO (BF n) fun i=>onO (BF f) fun _=>.need (a=EY∧p=J9∧0≤i.1∧i.1<4294967296) (.ret (.bool true))
theorem QN (l:List AV):NoExc (agW l):=CP fun _ _=>CP fun _ _=>CP fun _ _=>C4 fun _=>JK fun _=>JK fun _=>trivial
theorem M6 {a p n f:AV} {i j:Int} {bi bj:Bool} (e1:BF n=some (i,bi)) (e2:BF f=some (j,bj)) (V:Vis) (vs:List Value):HasL prog w V [] [a,p,n,f] vs→HasL prog w V [] [a,p,.sym i,.sym j] vs:=
 fun q=>ob23 q fun v r q1 q2 q=>ob23 q fun u r' q3 q4 q=>ob23 q fun x r'' q5 q6 q=>ob23 q fun y r''' q7 q8 q9=>⟨v,r,q1,q2,u,r',q3,q4,x,r'',q5,LJ e1 q6,y,r''',q7,LJ e2 q8,q9⟩
theorem agX {x:R AV} {v:AV} {P:AV→Prop} (h:HX x (fun av=>av=v) False) (hp:P v):HX x (fun av=>∃ av',P av'∧Sub prog w av av') False:=C5 h fun av e=>⟨v,hp,by rw [e]; exact GC _⟩
theorem XT (args:List AV) (P:AV→Prop) (hh:HX (agW args) P False):∃ args',(∀ V vs,HasL prog w V [] args vs→HasL prog w V [] args' vs)∧HX (run c24 3 48 ["known_rows","pictures","number","first"] args') (fun av=>∃ av',P av'∧Sub prog w av av') False:=by
 refine CO hh.out fun a r ea hh=>CO hh fun p r' ep hh=>CO hh fun n r'' en hh=>C3 hh fun f ef hh=>AX hh fun i e1 hh=>AX hh fun j e2 hh=>?_
 have hq:(a=EY∧p=J9∧0≤i.1∧i.1<4294967296)∧P (.bool true):=hh
 have ha:=hq.1.1
 have hp:=hq.1.2.1
 refine ob11 (Int.eq_ofNat_of_zero_le hq.1.2.2.1) fun N hN=>?_
 have hl:N<4294967296:=by have:=hq.1.2.2.2; omega
 rw [ea,ep,en,ef]
 refine ⟨[a,p,.sym i.1,.sym j.1],fun V vs=>M6 e1 e2 V vs,?_⟩
 rw [ha,hp,hN]
 exact agX (O1 hl _) hq.2
def c25:Ctx:=c24.add "_law_is_turned_right" 3 agW
theorem arZ (X:(Kx w.params).In h) (lim:h.NoLimit):GOK prog w c25 h:=AW (akZ X lim) (BZ X (by kernel_rfl)) ⟨o664 w.params,_,X 664 _ (by kernel_rfl),rfl⟩ ((CC (d48 X lim) (akZ X lim) rfl).coerce XT) QN
end
end Mine
end
section
open PySem.SeqAt MineH
namespace Mine
section
variable {prog:Program} {w:World} {h:Heap}
noncomputable def fdOf (o:Obj):Option FuncData:=match o.data with | .func fd=>some fd | _=>none
def fdI (w:World):FuncData:=match (o28 w.params).data with | .func fd=>fd | _=>docDef "" ⟨[],[],none,[],[],none,[]⟩ [] (AC 0) .none .none .none
theorem agY (w:World):∀ x∈(fdI w).scope.names,x.2≠.cell:=fun x hx=>by
 have e:((fdI w).scope.names.all fun p=>!decide (p.2=.cell))=true:=by kernel_rfl
 simpa using List.all_eq_true.mp e x hx
theorem asA (X:(Kx w.params).In h):h.get? 31=some (afO 31 30):=by
 have e:=X 31 (o31 w.params) (by kernel_rfl)
 rw [e]
 kernel_rfl
theorem afat (X:(Kx w.params).In h) (lim:h.NoLimit):AFat h 31 30 28 where
 cls:=asA X
 ns:=⟨nsFind (DT (o30 w.params)),afY (X 30 _ (by kernel_rfl)) (by kernel_rfl) (by kernel_rfl),by kernel_rfl,by kernel_rfl,by kernel_rfl,by kernel_rfl⟩
 init:=⟨o28 w.params,fdI w,X 28 (o28 w.params) (by kernel_rfl),by kernel_rfl,by kernel_rfl,⟨27,_,_,_,rfl,X 27 (o27 w.params) (by kernel_rfl),rfl,rfl⟩,
  by kernel_rfl,by kernel_rfl,by kernel_rfl,len3 fun a b c=>by kernel_rfl,by kernel_rfl,by kernel_rfl,by kernel_rfl,agY w,by kernel_rfl,by kernel_rfl,by kernel_rfl,by kernel_rfl⟩
 lim:=lim
 glob:=⟨gm w,bmm w,ns_g X,ns_b X,by kernel_rfl,by kernel_rfl⟩
noncomputable def syV:AV→AV
 | .num i=>.sym i
 | v=>v
def sy:AV→AV
 | .num i=>.sym i
 | .dS ks l=>.dS ks (l.map syV)
 | v=>v
theorem agZ {V:Vis} {v:Value}:∀ {x:AV},Has prog w V [] x v→Has prog w V [] (syV x) v:=by
 intro x hx
 cases x<;>exact hx
theorem XU {V:Vis}:∀ {l:List AV} {vs:List Value},HasL prog w V [] l vs→HasL prog w V [] (l.map syV) vs
 | [],_,h=>h
 | _ :: _,_,⟨v,r,e,h1,h2⟩=>⟨v,r,e,agZ h1,XU h2⟩
theorem alF {V:Vis} {v:Value}:∀ {x:AV},Has prog w V [] x v→Has prog w V [] (sy x) v:=by
 intro x hx
 cases x with
 | dS ks l=>(refine ob35 hx ?_; clear hx; intro a o vs e hv hd hl hh); exact ⟨a,o,vs,e,hv,hd,hl,XU hh⟩
 | _=>exact hx
theorem QO {V:Vis}:∀ {l:List AV} {vs:List Value},HasL prog w V [] l vs→HasL prog w V [] (l.map sy) vs
 | [],_,h=>h
 | _ :: _,_,⟨v,r,e,h1,h2⟩=>⟨v,r,e,alF h1,QO h2⟩
theorem PureFn.joinB {G:Heap} {a:Addr} {n:Nat} {sp:List AV→R AV} (h:PureFn prog w G a ⟨n,sp⟩):PureFn prog w G a ⟨n,fun args=>joinB sp (args.map sy)⟩:=
 h.coerce fun args P hh=>⟨args.map sy,fun V vs=>QO,⟨QI _ P hh.out⟩⟩
theorem PureFn.joinI {G:Heap} {a:Addr} {n:Nat} {sp:List AV→R AV} (h:PureFn prog w G a ⟨n,sp⟩):PureFn prog w G a ⟨n,fun args=>joinI sp (args.map sy)⟩:=
 h.coerce fun args P hh=>⟨args.map sy,fun V vs=>QO,⟨QJ _ P hh.out⟩⟩
def asB:List AV→R AV:=fun args=>joinB (run c9 0 20 ["name","imm"]) (args.map sy)
def c26:Ctx:=c25.add "fits" 0 asB
theorem alG (X:(Kx w.params).In h) (lim:h.NoLimit):GOK prog w c26 h:=AW (arZ X lim) (BZ X (by kernel_rfl)) ⟨o293 w.params,_,X 293 _ (by kernel_rfl),rfl⟩ ((CC (d20 X lim) (gok9 X lim) rfl).joinB) fun _=>JO _
def cX:Ctx:={ c26 with raise:=true }
theorem XV {C:Ctx} (g:GOK prog w C h):GOK prog w { C with raise:=true } h:=⟨g.names⟩
theorem gokX (X:(Kx w.params).In h) (lim:h.NoLimit):GOK prog w cX h:=XV (alG X lim)
def encX:List AV→R AV:=WL cX 1 60 (AC 25) (AE 25) ["name","fields"]
theorem O2 (X:(Kx w.params).In h) (lim:h.NoLimit):RaiseFn prog w h 31 328 ⟨1,encX⟩:=
 afV (C:=cX) (d25 X lim) (gokX X lim) (Nat.le_refl 1) (afat X lim) (BZ X (by kernel_rfl)) (by kernel_rfl) 60
theorem RaiseFn.pure {G:Heap} {C a:Addr} {n:Nat} {sp:List AV→R AV} (h:RaiseFn prog w G C a ⟨n,sp⟩):PureFn prog w G a ⟨n,fun args=>noX (sp args)⟩:=
 fun X fr s A vs avs P Q E h1 h2 h3 h4 h5 h6 h7 h8 h9=>h X fr s A vs avs P False Q E h1 h2 h3 h4 h5 h6 h7 (EG (X:=False) h8) h9 fun q=>q.elim
def encS:List AV→R AV:=fun args=>joinI (fun a=>noX (encX a)) (args.map sy)
def c27:Ctx:=c26.add "encode" 1 encS
theorem asC (X:(Kx w.params).In h) (lim:h.NoLimit):GOK prog w c27 h:=AW (alG X lim) (BZ X (by kernel_rfl)) ⟨o328 w.params,_,X 328 _ (by kernel_rfl),rfl⟩ ((O2 X lim).pure.joinI) fun _=>CQ _
theorem alH:AE 44=WQ 0 0 ⟨181,8,181,14⟩ ⟨181,15,181,19⟩ ⟨181,21,181,27⟩ ⟨181,8,181,28⟩ ⟨181,8,181,28⟩ ⟨182,11,182,24⟩ ⟨183,15,183,19⟩ ⟨183,8,183,19⟩ ⟨182,4,183,19⟩ ⟨180,4,183,19⟩ ⟨184,11,184,16⟩ ⟨184,4,184,16⟩:=by kernel_rfl
def refX:List AV→R AV:=fun args=>AO (Nat.beq args.length 2) (JH (encX args))
theorem alI (X:(Kx w.params).In h) (lim:h.NoLimit):PureFn prog w h 640 ⟨2,refX⟩:=by
 have D:=d44 X lim
 rw [alH] at D
 exact S2 (C:=cX) D (afat X lim) ⟨gm w,ns_g X,by kernel_rfl,by kernel_rfl⟩ ⟨o328 w.params,_,X 328 _ (by kernel_rfl),rfl⟩ (O2 X lim) (Nat.le_refl 2) (by kernel_rfl) (by kernel_rfl)
def refS:List AV→R AV:=fun args=>joinB refX (args.map sy)
def c28:Ctx:=c27.add "_law_is_refused" 2 refS
theorem asD (X:(Kx w.params).In h) (lim:h.NoLimit):GOK prog w c28 h:=AW (asC X lim) (BZ X (by kernel_rfl)) ⟨o640 w.params,_,X 640 _ (by kernel_rfl),rfl⟩ ((alI X lim).joinB) fun _=>JO _
def asE:List AV→R AV:=fun args=>joinI (run c15 0 40 ["drawing","known"]) (args.map sy)
def c29:Ctx:=c28.add "_law_laid" 0 asE
theorem asF (X:(Kx w.params).In h) (lim:h.NoLimit):GOK prog w c29 h:=AW (asD X lim) (BZ X (by kernel_rfl)) ⟨o612 w.params,_,X 612 _ (by kernel_rfl),rfl⟩ ((CC (d40 X lim) (agB X lim) rfl).joinI) fun _=>CQ _
def c30:Ctx:={ c29 with wfuns:=("_law_draw",⟨0,abC⟩) :: c29.wfuns }
theorem asG (X:(Kx w.params).In h) (lim:h.NoLimit):GOK prog w c30 h:=MT (asF X lim) (BZ X (by kernel_rfl)) ⟨o591 w.params,_,X 591 _ (by kernel_rfl),rfl⟩ (agF X lim) QA
end
end Mine
end
section
open PySem.SeqAt MineH
namespace Mine
section
variable {prog:Program} {w:World} {h:Heap}
def ER:List AV→R AV:=run c10 0 21 ["form","imm"]
def abL:List AV→R AV:=run c13 2 24 ["word","form","imm"]
def IM:List AV→R AV:=run c15 0 40 ["drawing","known"]
def EK:List AV→R AV:=run c9 0 20 ["name","imm"]
def encN:List AV→R AV:=fun a=>noX (encX a)
def asH:List AV→R AV:=fun args=>joinI ER (args.map sy)
def asI:List AV→R AV:=fun args=>joinI abL (args.map sy)
def c31a:Ctx:=c30.add "imm_bits" 0 asH
def c31:Ctx:=c31a.add "with_imm" 2 asI
theorem alJ (X:(Kx w.params).In h) (lim:h.NoLimit):GOK prog w c31a h:=AW (asG X lim) (BZ X (by kernel_rfl)) ⟨o300 w.params,_,X 300 _ (by kernel_rfl),rfl⟩ ((CC (d21 X lim) (afZ X lim) rfl).joinI) fun _=>CQ _
theorem alK (X:(Kx w.params).In h) (lim:h.NoLimit):GOK prog w c31 h:=AW (alJ X lim) (BZ X (by kernel_rfl)) ⟨o321 w.params,_,X 321 _ (by kernel_rfl),rfl⟩ ((CC (d24 X lim) (agA X lim) rfl).joinI) fun _=>CQ _
def pics:List Str:=match v_P with | .dS _ l=>(match GD l with | some m=>m | none=>[]) | _=>[]
def picF (f:Str):Str:=match D7 formsL (pics.map .str) f with | some (.str x)=>x | _ => ""
noncomputable def tabL:List (Str×Int×Int×Int×Int):=[("I",4293918720,1,-2048,2048),("H",32505856,1,0,32),("S",4261416832,1,-2048,2048),("B",4261416832,2,-4096,4096),("U",4294963200,1,0,1048576),("J",4294963200,2,-1048576,1048576),("F",267386880,1,0,256)]
def tabF (f:Str):Int×Int×Int×Int:=(tabL.lookup f).getD (0,0,0,0)
def C6 (f:Str):Int:=(tabF f).1
def G2 (f:Str):Int:=(tabF f).2.1
def DJ (f:Str):Int:=(tabF f).2.2.1
def HQ (f:Str):Int:=(tabF f).2.2.2
def asJ (f:Str):Int:=(HQ f - DJ f) / G2 f
def AI (f:Str) (g:Str→Int):AV:=.dS (AZ f) ((AZ f).map fun k=>.sym (g k))
def G3 (f:Str) (g:Str→Int) (e:AV):AV:=.dS (AZ f) ((AZ f).map fun k=>match k==("imm" : Str) with | true=>e | false=>.sym (g k))
def A4 (f:Str) (g:Str→Int) (key:Str):AV:=.dS ((AZ f).filter fun k=>!(k==key)) (((AZ f).filter fun k=>!(k==key)).map fun k=>.sym (g k))
def E0 (n f:Str) (g:Str→Int):AEnv:=[("well",.loc 0),("name",.str n),("form",.str f),("drawing",drF f),("fields",AI f g)]
def E1 (n f:Str) (g:Str→Int) (c r:Int):AEnv:=("far",.sym r) :: ("cell",.sym c) :: E0 n f g
def E2 (n f:Str) (g:Str→Int) (c r b:Int):AEnv:=("picture",.str (picF f)) :: ("value",.sym (g "imm")) :: ("base",.sym b) :: E1 n f g c r
def E3 (n f:Str) (g:Str→Int) (c r b:Int):AEnv:=("mask",.num (C6 f)) :: E2 n f g c r b
def E4 (n f:Str) (g:Str→Int) (c r b u:Int):AEnv:=("due",.sym u) :: E3 n f g c r b
def E5 (n f:Str) (g:Str→Int) (c r b u x:Int):AEnv:=("changed",.sym x) :: E4 n f g c r b u
def E7 (n f:Str) (g:Str→Int) (c r b u x:Int):AEnv:=("many",.num (asJ f)) :: ("pace",.num (G2 f)) :: E5 n f g c r b u x
def E8 (n f:Str) (g:Str→Int) (c r b u x:Int):AEnv:=("least",.num (DJ f)) :: E7 n f g c r b u x
def E9 (n f:Str) (g:Str→Int) (c r b u x:Int):AEnv:=("end",.num (HQ f)) :: E8 n f g c r b u x
noncomputable def KA (l:List Int) (a s:Int):List AV:=[.ints l,.sym a,.sym s]
def IN (l:List Int) (a s:Int):SL:=[.own (.lst (KA l a s))]
noncomputable abbrev Mx:Int:=2147483647
def O3 (l:List Int) (i j:Int) (ns:List Int):Prop:=(0≤i∧i<1000∧l.length<1000∧0≤j∧j<2147483648)∧(ns.length=1∨ns.length=4∨ns.length=5)∧∀ n∈ns,0<n∧n<4294967296
abbrev GO (k i:Nat) (env:AEnv) (sl:SL):RS:=IK c31 3 k (AC 45) (BQ c31 3 (AC 45) k) env (stAt (AE 45) i) sl
theorem asK (n f:Str) (g:Str→Int) (l:List Int) (a s:Int):GO 59 0 (E0 n f g) (IN l a s)=.need (O3 l a s [Mx]) (.need (O3 l (a+1) (BI l a s) [Mx])
  (.ret (.nxt,E1 n f g ((B4 l a s).fmod Mx) ((B4 l (a+1) (BI l a s)).fmod Mx),IN l (a+1+1) (BI l (a+1) (BI l a s))))):=by kernel_rfl
theorem by7 {Q:Str→Prop} (h1:Q "I") (h2:Q "H") (h3:Q "S") (h4:Q "B") (h5:Q "U") (h6:Q "J") (h7:Q "F"):∀ f∈AB,Q f:=by
 intro f hf
 simp only [AB,List.mem_cons,List.not_mem_nil,or_false] at hf
 rcases hf with q | q | q | q | q | q | q<;>(rw [q]; assumption)
theorem asL (n:Str) (g:Str→Int) (c r:Int) (sl:SL):∀ f∈AB,GO 58 1 (E1 n f g c r) sl=.need (c.natAbs<2 ^ 64) (.ret (.nxt,E2 n f g c r (c*2+r.fmod 2),sl)):=
 by7 (by kernel_rfl) (by kernel_rfl) (by kernel_rfl) (by kernel_rfl) (by kernel_rfl) (by kernel_rfl) (by kernel_rfl)
theorem asM (n:Str) (g:Str→Int) (c r b:Int) (sl:SL):∀ f∈AB,GO 57 2 (E2 n f g c r b) sl=.ret (.nxt,E3 n f g c r b,sl):=
 by7 (by kernel_rfl) (by kernel_rfl) (by kernel_rfl) (by kernel_rfl) (by kernel_rfl) (by kernel_rfl) (by kernel_rfl)
def dueR (f:Str) (v:Int):R AV:=IM ([drF f,.dS ["i"] [.sym v]].map sy)
theorem asN (n:Str) (g:Str→Int) (c r b:Int) (sl:SL):∀ f∈AB,GO 56 3 (E3 n f g c r b) sl=.need (okI (dueR f (g "imm"))) (.ret (.nxt,E4 n f g c r b (valI (dueR f (g "imm"))),sl)):=
 by7 (by kernel_rfl) (by kernel_rfl) (by kernel_rfl) (by kernel_rfl) (by kernel_rfl) (by kernel_rfl) (by kernel_rfl)
def chgR (f:Str) (b v:Int):R AV:=abL ([.sym b,.str f,.sym v].map sy)
theorem asO (n:Str) (g:Str→Int) (c r b u:Int) (sl:SL):∀ f∈AB,GO 55 4 (E4 n f g c r b u) sl=.need (okI (chgR f b (g "imm"))) (.ret (.nxt,E5 n f g c r b u (valI (chgR f b (g "imm"))),sl)):=
 by7 (by kernel_rfl) (by kernel_rfl) (by kernel_rfl) (by kernel_rfl) (by kernel_rfl) (by kernel_rfl) (by kernel_rfl)
noncomputable def retF (env:AEnv) (sl:SL):RS:=.ret (.ret (.bool false),env,sl)
def bitR (f:Str) (v:Int):R AV:=ER ([.str f,.sym v].map sy)
theorem asP (n:Str) (g:Str→Int) (c r b u x:Int) (sl:SL):∀ f∈AB,GO 54 5 (E5 n f g c r b u x) sl =
  .need (okI (bitR f (g "imm"))) (.need (true=true) (.need ((!(valI (bitR f (g "imm"))==u))=false→true=true∧True)
   (.ite ((!(valI (bitR f (g "imm"))==u))||!(x==b - Builtin.bitAnd b (C6 f)+u)) (retF (E5 n f g c r b u x) sl) (.ret (.nxt,E5 n f g c r b u x,sl))))):=
 by7 (by kernel_rfl) (by kernel_rfl) (by kernel_rfl) (by kernel_rfl) (by kernel_rfl) (by kernel_rfl) (by kernel_rfl)
theorem asQ (n:Str) (g:Str→Int) (c r b u x:Int) (sl:SL):∀ f∈AB,GO 53 6 (E5 n f g c r b u x) sl =
  .need (0≤x∧x<4294967296) (.need (true=true) (.need ((!(immV f x==g "imm"))=false→(0≤b∧b<4294967296)∧drF f=drF f∧(0≤b∧b<4294967296)∧true=true∧True)
   (.ite ((!(immV f x==g "imm"))||!(immV f b==A3 f b "imm")) (retF (E5 n f g c r b u x) sl) (.ret (.nxt,E5 n f g c r b u x,sl))))):=
 by7 (by kernel_rfl) (by kernel_rfl) (by kernel_rfl) (by kernel_rfl) (by kernel_rfl) (by kernel_rfl) (by kernel_rfl)
theorem asR (n:Str) (g:Str→Int) (c r b u x:Int) (sl:SL):∀ f∈AB,GO 52 7 (E5 n f g c r b u x) sl=.ret (.nxt,E7 n f g c r b u x,sl):=
 by7 (by kernel_rfl) (by kernel_rfl) (by kernel_rfl) (by kernel_rfl) (by kernel_rfl) (by kernel_rfl) (by kernel_rfl)
theorem asS (n:Str) (g:Str→Int) (c r b u x:Int) (sl:SL):∀ f∈AB,GO 51 8 (E7 n f g c r b u x) sl=.ret (.nxt,E8 n f g c r b u x,sl):=
 by7 (by kernel_rfl) (by kernel_rfl) (by kernel_rfl) (by kernel_rfl) (by kernel_rfl) (by kernel_rfl) (by kernel_rfl)
theorem asT (n:Str) (g:Str→Int) (c r b u x:Int) (sl:SL):∀ f∈AB,GO 50 9 (E8 n f g c r b u x) sl=.ret (.nxt,E9 n f g c r b u x,sl):=
 by7 (by kernel_rfl) (by kernel_rfl) (by kernel_rfl) (by kernel_rfl) (by kernel_rfl) (by kernel_rfl) (by kernel_rfl)
end
end Mine
end
section
open PySem.SeqAt MineH
namespace Mine
section
variable {prog:Program} {w:World} {h:Heap}
def b45:List Stmt:=(forP (stAt (AE 45) 10)).2.2.1
abbrev f45:Expr×Expr×List Stmt×Pos:=forP (stAt (AE 45) 10)
def DX (f:Str):List (Int×Bool):=(DJ f - 1,false) :: (DJ f,true) :: (HQ f - 1,G2 f==1) :: [(HQ f,false)]
def D4 (f:Str):List (Int×Bool):=match G2 f==2 with | true=>[(DJ f - 2,false),(HQ f - 2,true),(HQ f+2,false)] | false=>[]
def XW (f:Str) (r:Int):List AV:=(DX f).map (fun p=>.num p.1)++[.sym r]++(D4 f).map (fun p=>.num p.1)
theorem alL (n:Str) (g:Str→Int) (c r b u x:Int) (sl:SL):∀ f∈AB,FA c31 3 49 (AC 45) (E9 n f g c r b u x) f45.2.1 sl=.ret (none,.lst (XW f r)):=
 by7 (by kernel_rfl) (by kernel_rfl) (by kernel_rfl) (by kernel_rfl) (by kernel_rfl) (by kernel_rfl) (by kernel_rfl)
theorem asU:stAt (AE 45) 10=.For f45.1 f45.2.1 b45 [] f45.2.2.2:=by kernel_rfl
def fitR (n:Str) (e:AV):R AV:=EK ([.str n,e].map sy)
def refR (n:Str) (o:AV):R AV:=refX ([.str n,o].map sy)
def encR (n:Str) (o:AV):R AV:=encN ([.str n,o].map sy)
def ET (n f:Str) (g:Str→Int) (c r b u x:Int) (o h e:AV):AEnv:=("has_room",h) :: ("other",o) :: ("edge",e) :: E9 n f g c r b u x
def decB (i:Int) (n:Str) (o:AV):Bool:=!(eqN (und (decV i rowsF)) (und (.tup [.str n,o]))).getD false
def decP (i:Int) (n:Str) (o:AV):Prop:=(eqN (und (decV i rowsF)) (und (.tup [.str n,o]))).isSome=true
def ahA (n:Str) (o e:AV) (hr:Bool) (env:AEnv) (sl:SL):RS:=
 .need (okB (fitR n e)) (.need (true=true) (.need ((!(valB (fitR n e)==hr))=false→okB (refR n o)∧true=true∧True)
  (.ite ((!(valB (fitR n e)==hr))||(valB (refR n o)==hr)) (retF env sl)
   (match hr with
    | true=>.need (okI (encR n o)) (.need (0≤valI (encR n o)∧valI (encR n o)<4294967296) (.need (decP (valI (encR n o)) n o) (.ite (decB (valI (encR n o)) n o) (retF env sl) (.ret (.nxt,env,sl)))))
    | false=>.ret (.nxt,env,sl)))))
def hrF (f:Str) (r:Int):Bool:=(decide (DJ f≤r)&&decide (r<HQ f))&&(r.fmod (G2 f)==0)
def alM (n:Str) (o e:AV) (hr:Bool) (env:AEnv) (sl:SL):RS:=
 .need (okB (fitR n e)) (.need (true=true) (.need ((!(valB (fitR n e)==hr))=false→okB (refR n o)∧true=true∧True)
  (.ite ((!(valB (fitR n e)==hr))||(valB (refR n o)==hr)) (retF env sl)
   (.need (hr=true→okI (encR n o)∧(0≤valI (encR n o)∧valI (encR n o)<4294967296)∧decP (valI (encR n o)) n o∧True) (.ite (hr&&decB (valI (encR n o)) n o) (retF env sl) (.ret (.nxt,env,sl)))))))
abbrev XX (env:AEnv) (sl:SL):RS:=BQ c31 3 (AC 45) 49 env b45 sl
def acT (n f:Str) (g:Str→Int) (c r b u x:Int) (sl:SL) (p:Int×Bool):Prop:=
 XX (("edge",.num p.1) :: E9 n f g c r b u x) sl=ahA n (G3 f g (.num p.1)) (.num p.1) p.2 (ET n f g c r b u x (G3 f g (.num p.1)) (.bool p.2) (.num p.1)) sl ∧
 ∀ o h,XX (("edge",.num p.1) :: ("has_room",h) :: ("other",o) :: E9 n f g c r b u x) sl=ahA n (G3 f g (.num p.1)) (.num p.1) p.2 (ET n f g c r b u x (G3 f g (.num p.1)) (.bool p.2) (.num p.1)) sl
def O4 (n f:Str) (g:Str→Int) (c r b u x:Int) (sl:SL):Prop:=∀ o h,XX (("edge",.sym r) :: ("has_room",h) :: ("other",o) :: E9 n f g c r b u x) sl =
  .need (decide (DJ f≤r)=true→True) (.need ((decide (DJ f≤r)&&decide (r<HQ f))=true→(true=true∧True)) (alM n (G3 f g (.sym r)) (.sym r) (hrF f r) (ET n f g c r b u x (G3 f g (.sym r)) (.sb (hrF f r)) (.sym r)) sl))
noncomputable def AllE (n f:Str) (g:Str→Int) (c r b u x:Int) (sl:SL):List (Int×Bool)→Prop
 | []=>True
 | p :: l=>acT n f g c r b u x sl p∧AllE n f g c r b u x sl l
theorem ahB (n:Str) (g:Str→Int) (c r b u x:Int) (sl:SL):AllE n "I" g c r b u x sl [(-2049,false),(-2048,true),(2047,true),(2048,false)]:=⟨⟨by kernel_rfl,fun o h=>by kernel_rfl⟩,⟨⟨by kernel_rfl,fun o h=>by kernel_rfl⟩,⟨⟨by kernel_rfl,fun o h=>by kernel_rfl⟩,⟨⟨by kernel_rfl,fun o h=>by kernel_rfl⟩,trivial⟩⟩⟩⟩
theorem asV (n:Str) (g:Str→Int) (c r b u x:Int) (sl:SL):O4 n "I" g c r b u x sl:=fun o h=>by kernel_rfl
theorem el_I:DX "I" = [(-2049,false),(-2048,true),(2047,true),(2048,false)]∧D4 "I" = []:=⟨by kernel_rfl,by kernel_rfl⟩
theorem ahC (n:Str) (g:Str→Int) (c r b u x:Int) (sl:SL):AllE n "H" g c r b u x sl [(-1,false),(0,true),(31,true),(32,false)]:=⟨⟨by kernel_rfl,fun o h=>by kernel_rfl⟩,⟨⟨by kernel_rfl,fun o h=>by kernel_rfl⟩,⟨⟨by kernel_rfl,fun o h=>by kernel_rfl⟩,⟨⟨by kernel_rfl,fun o h=>by kernel_rfl⟩,trivial⟩⟩⟩⟩
theorem asW (n:Str) (g:Str→Int) (c r b u x:Int) (sl:SL):O4 n "H" g c r b u x sl:=fun o h=>by kernel_rfl
theorem el_H:DX "H" = [(-1,false),(0,true),(31,true),(32,false)]∧D4 "H" = []:=⟨by kernel_rfl,by kernel_rfl⟩
theorem ahD (n:Str) (g:Str→Int) (c r b u x:Int) (sl:SL):AllE n "S" g c r b u x sl [(-2049,false),(-2048,true),(2047,true),(2048,false)]:=⟨⟨by kernel_rfl,fun o h=>by kernel_rfl⟩,⟨⟨by kernel_rfl,fun o h=>by kernel_rfl⟩,⟨⟨by kernel_rfl,fun o h=>by kernel_rfl⟩,⟨⟨by kernel_rfl,fun o h=>by kernel_rfl⟩,trivial⟩⟩⟩⟩
theorem asX (n:Str) (g:Str→Int) (c r b u x:Int) (sl:SL):O4 n "S" g c r b u x sl:=fun o h=>by kernel_rfl
theorem el_S:DX "S" = [(-2049,false),(-2048,true),(2047,true),(2048,false)]∧D4 "S" = []:=⟨by kernel_rfl,by kernel_rfl⟩
theorem ahE (n:Str) (g:Str→Int) (c r b u x:Int) (sl:SL):AllE n "B" g c r b u x sl [(-4097,false),(-4096,true),(4095,false),(4096,false),(-4098,false),(4094,true),(4098,false)]:=⟨⟨by kernel_rfl,fun o h=>by kernel_rfl⟩,⟨⟨by kernel_rfl,fun o h=>by kernel_rfl⟩,⟨⟨by kernel_rfl,fun o h=>by kernel_rfl⟩,⟨⟨by kernel_rfl,fun o h=>by kernel_rfl⟩,⟨⟨by kernel_rfl,fun o h=>by kernel_rfl⟩,⟨⟨by kernel_rfl,fun o h=>by kernel_rfl⟩,⟨⟨by kernel_rfl,fun o h=>by kernel_rfl⟩,trivial⟩⟩⟩⟩⟩⟩⟩
theorem asY (n:Str) (g:Str→Int) (c r b u x:Int) (sl:SL):O4 n "B" g c r b u x sl:=fun o h=>by kernel_rfl
theorem el_B:DX "B" = [(-4097,false),(-4096,true),(4095,false),(4096,false)]∧D4 "B" = [(-4098,false),(4094,true),(4098,false)]:=⟨by kernel_rfl,by kernel_rfl⟩
theorem ahF (n:Str) (g:Str→Int) (c r b u x:Int) (sl:SL):AllE n "U" g c r b u x sl [(-1,false),(0,true),(1048575,true),(1048576,false)]:=⟨⟨by kernel_rfl,fun o h=>by kernel_rfl⟩,⟨⟨by kernel_rfl,fun o h=>by kernel_rfl⟩,⟨⟨by kernel_rfl,fun o h=>by kernel_rfl⟩,⟨⟨by kernel_rfl,fun o h=>by kernel_rfl⟩,trivial⟩⟩⟩⟩
theorem asZ (n:Str) (g:Str→Int) (c r b u x:Int) (sl:SL):O4 n "U" g c r b u x sl:=fun o h=>by kernel_rfl
theorem el_U:DX "U" = [(-1,false),(0,true),(1048575,true),(1048576,false)]∧D4 "U" = []:=⟨by kernel_rfl,by kernel_rfl⟩
theorem ahG (n:Str) (g:Str→Int) (c r b u x:Int) (sl:SL):AllE n "J" g c r b u x sl [(-1048577,false),(-1048576,true),(1048575,false),(1048576,false),(-1048578,false),(1048574,true),(1048578,false)]:=⟨⟨by kernel_rfl,fun o h=>by kernel_rfl⟩,⟨⟨by kernel_rfl,fun o h=>by kernel_rfl⟩,⟨⟨by kernel_rfl,fun o h=>by kernel_rfl⟩,⟨⟨by kernel_rfl,fun o h=>by kernel_rfl⟩,⟨⟨by kernel_rfl,fun o h=>by kernel_rfl⟩,⟨⟨by kernel_rfl,fun o h=>by kernel_rfl⟩,⟨⟨by kernel_rfl,fun o h=>by kernel_rfl⟩,trivial⟩⟩⟩⟩⟩⟩⟩
theorem atA (n:Str) (g:Str→Int) (c r b u x:Int) (sl:SL):O4 n "J" g c r b u x sl:=fun o h=>by kernel_rfl
theorem el_J:DX "J" = [(-1048577,false),(-1048576,true),(1048575,false),(1048576,false)]∧D4 "J" = [(-1048578,false),(1048574,true),(1048578,false)]:=⟨by kernel_rfl,by kernel_rfl⟩
theorem ahH (n:Str) (g:Str→Int) (c r b u x:Int) (sl:SL):AllE n "F" g c r b u x sl [(-1,false),(0,true),(255,true),(256,false)]:=⟨⟨by kernel_rfl,fun o h=>by kernel_rfl⟩,⟨⟨by kernel_rfl,fun o h=>by kernel_rfl⟩,⟨⟨by kernel_rfl,fun o h=>by kernel_rfl⟩,⟨⟨by kernel_rfl,fun o h=>by kernel_rfl⟩,trivial⟩⟩⟩⟩
theorem atB (n:Str) (g:Str→Int) (c r b u x:Int) (sl:SL):O4 n "F" g c r b u x sl:=fun o h=>by kernel_rfl
theorem el_F:DX "F" = [(-1,false),(0,true),(255,true),(256,false)]∧D4 "F" = []:=⟨by kernel_rfl,by kernel_rfl⟩
theorem fars (n:Str) (g:Str→Int) (c r b u x:Int) (sl:SL):∀ f∈AB,O4 n f g c r b u x sl:=
 by7 (asV n g c r b u x sl) (asW n g c r b u x sl) (asX n g c r b u x sl) (asY n g c r b u x sl) (asZ n g c r b u x sl) (atA n g c r b u x sl) (atB n g c r b u x sl)
theorem M7 {n f:Str} {g:Str→Int} {c r b u x:Int} {sl:SL}:∀ {l:List (Int×Bool)},AllE n f g c r b u x sl l→∀ p∈l,acT n f g c r b u x sl p
 | [],_,p,hp=>(nomatch hp)
 | q :: l,⟨h1,h2⟩,p,hp=>by
  rcases List.mem_cons.mp hp with e | e
  ·rw [e]; exact h1
  ·exact M7 h2 p e
theorem atC (n:Str) (g:Str→Int) (c r b u x:Int) (sl:SL):∀ f∈AB,AllE n f g c r b u x sl (DX f++D4 f):=
 by7 (by rw [el_I.1,el_I.2]; exact ahB ..) (by rw [el_H.1,el_H.2]; exact ahC ..) (by rw [el_S.1,el_S.2]; exact ahD ..) (by rw [el_B.1,el_B.2]; exact ahE ..) (by rw [el_U.1,el_U.2]; exact ahF ..) (by rw [el_J.1,el_J.2]; exact ahG ..) (by rw [el_F.1,el_F.2]; exact ahH ..)
theorem alN (n f:Str) (g:Str→Int) (c r b u x:Int) (e:AV):ED (AC 45) f45.1 e (E9 n f g c r b u x)=some ((("edge" : Str),e) :: E9 n f g c r b u x):=by kernel_rfl
theorem ahI (n f:Str) (g:Str→Int) (c r b u x:Int) (o h e e':AV):ED (AC 45) f45.1 e (ET n f g c r b u x o h e')=some ((("edge" : Str),e) :: ("has_room",h) :: ("other",o) :: E9 n f g c r b u x):=by kernel_rfl
theorem alO (n:Str) (g:Str→Int) (c r b u x:Int) (o h e:AV) (sl:SL):∀ f∈AB,BQ c31 3 (AC 45) 49 (ET n f g c r b u x o h e) [stAt (AE 45) 11] sl=.need (okB (refR n (A4 f g "imm"))) (.ret (.ret (.sb (valB (refR n (A4 f g "imm")))),ET n f g c r b u x o h e,sl)):=
 by7 (by kernel_rfl) (by kernel_rfl) (by kernel_rfl) (by kernel_rfl) (by kernel_rfl) (by kernel_rfl) (by kernel_rfl)
theorem alP:AE 45=[stAt (AE 45) 0,stAt (AE 45) 1,stAt (AE 45) 2,stAt (AE 45) 3,stAt (AE 45) 4,stAt (AE 45) 5,stAt (AE 45) 6,stAt (AE 45) 7,stAt (AE 45) 8,stAt (AE 45) 9,.For f45.1 f45.2.1 b45 [] f45.2.2.2,stAt (AE 45) 11]:=by kernel_rfl
end
end Mine
end
section
open PySem.SeqAt MineH
namespace Mine
section
variable {prog:Program} {w:World} {h:Heap}
theorem O5 {α β:Type} {P:β→Prop} {X:Prop} {f:α→R β} {x:R α} (h:HX (x.bind f) P X):HX x (fun a=>HX (f a) P X) X:=⟨R.holds_mono (fun _ q=>⟨q⟩) id (R.holds_bind h.out)⟩
def DY:List Str:=(dS? CH).1
def HR:List AV:=(dS? CH).2
def st25 (i:Nat):Stmt:=stAt (AE 25) i
def XY:List Stmt:=[st25 2,st25 3,st25 4,st25 5]
theorem acU:AE 25=st25 0 :: st25 1 :: XY:=by kernel_rfl
noncomputable def JX (n:Str) (F:AV):AEnv:=[("name",.str n),("fields",F)]
noncomputable def ahJ (n f:Str) (base:Int) (F:AV):AEnv:=[("found",.num base),("form",.str f),("name",.str n),("fields",F)]
noncomputable def if25:List Stmt:=match st25 0 with | .If _ b _ _=>b | _=>[]
noncomputable def acV (n:Str) (F:AV):RS:=BQ cX 1 (AC 25) 59 (JX n F) if25 []
theorem alQ (n:Str) (F:AV):IK cX 1 59 (AC 25) (BQ cX 1 (AC 25) 59) (JX n F) (st25 0) []=BQ cX 1 (AC 25) 59 (JX n F) (bif !memS n DY then if25 else []) []:=by kernel_rfl
def alR:Expr:=match st25 1 with | .Assign _ v _=>v | _=>.Name "" ⟨0,0,0,0⟩
def alS:Expr:=match st25 1 with | .Assign (t :: _) _ _=>t | _=>.Name "" ⟨0,0,0,0⟩
theorem atD (n:Str) (F:AV):IK cX 1 58 (AC 25) (BQ cX 1 (AC 25) 58) (JX n F) (st25 1) []=(FA cX 1 58 (AC 25) (JX n F) alR []).bind fun p=>(match ED (AC 25) alS p.2 (JX n F) with | some env'=>.ret (.nxt,env',p.1.getD []) | none=>.fail):=by kernel_rfl
theorem alT (n:Str) (F:AV):FA cX 1 58 (AC 25) (JX n F) alR []=DC (J2 [] (.dS DY HR) (.str n)):=by kernel_rfl
theorem avG (n f:Str) (base:Int) (F:AV):ED (AC 25) alS (.tup [.str f,.num base]) (JX n F)=some (ahJ n f base F):=by kernel_rfl
theorem LN {n:Str} {v:AV} (hl:D7 DY HR n=some v):J2 [] (.dS DY HR) (.str n)=.ret v:=by
 show orO (D7 DY HR n) R.ret R.fail=_
 rw [hl]; rfl
def AN (n f:Str) (base:Int) (F:AV):R AV:=(BQ cX 1 (AC 25) 58 (ahJ n f base F) XY []).bind endF
theorem AT {n f:Str} {base:Int} {F:AV} {P:AV→Prop} {X:Prop} (hm:memS n DY=true) (hl:D7 DY HR n=some (.tup [.str f,.num base])) (hh:HX (AN n f base F) P X):HX (encX [.str n,F]) P X:=by
 show HX ((BQ cX 1 (AC 25) 60 (JX n F) (AE 25) []).bind endF) P X
 refine CZ ?_
 rw [acU]
 refine AR ?_
 rw [alQ,hm]
 refine A1 (y:=R.ret (Fl.nxt,JX n F,([]:SL))) rfl ?_
 refine AK ?_
 refine AR ?_
 rw [atD,alT,LN hl]
 refine AK ?_
 show HX (agP cX 1 58 (AC 25) XY (.nxt,ahJ n f base F,[])) _ X
 exact O5 hh
def plF (f:Str):List (Str×Int):=match f==("R" : Str) with
 | true=>[("rd",7),("rs1",15),("rs2",20)]
 | false=>match memS f ["I","H"] with
  | true=>[("rd",7),("rs1",15)]
  | false=>match memS f ["S","B"] with
   | true=>[("rs1",15),("rs2",20)]
   | false=>match memS f ["U","J"] with
    | true=>[("rd",7)]
    | false=>[]
noncomputable def excT (k:Str):R AV:=.need (("no register for " : Str).length+k.length≤16777216) .exc
noncomputable def BG (g:Str→Int):List (Str×Int)→AV→(AV→R AV)→R AV
 | [],a,K=>K a
 | (k,s) :: l,a,K=>.need (decide (0≤g k)=true→True) (.ite (!(decide (0≤g k)&&decide (g k<32))) (excT k) (.need ((g k).natAbs<2 ^ 64) (BG g l (.sym (Builtin.bitOr (match BF a with | some (i,_)=>i | none=>0) (g k*2 ^ s.toNat))) K)))
noncomputable def excI (n:Str):R AV:=.need (("a number that " : Str).length+n.length≤16777216) (.need ((("a number that " : Str)++n).length+(" can't hold" : Str).length≤16777216) .exc)
def immT (n f:Str) (v:Int) (a:AV):R AV:=.need (okB (fitR n (.sym v))) (.ite (!valB (fitR n (.sym v))) (excI n) ((ER [.str f,.sym v]).bind fun b=>binA .BitOr a b))
def D2 (n f:Str) (v:Int) (a:AV):R AV:=match memS f AB with
 | true=>immT n f v a
 | false=>.ret a
noncomputable def dKs (ks:List Str) (g:Str→Int):AV:=.dS ks (ks.map fun k=>.sym (g k))
def A5 (f:Str) (g:Str→Int) (key:Str):AV:=dKs ((AZ f).filter (fun k=>!(k==key))++[key]) g
noncomputable def DK (d:Str) (g:Str→Int):List (Str×Int)→AV→R AV
 | [],_=>.fail
 | (k,s) :: l,a=>match k==d with
  | true=>excT k
  | false=>.need (decide (0≤g k)=true→True) (.ite (!(decide (0≤g k)&&decide (g k<32))) (excT k) (.need ((g k).natAbs<2 ^ 64) (DK d g l (.sym (Builtin.bitOr (match BF a with | some (i,_)=>i | none=>0) (g k*2 ^ s.toNat))))))
theorem alU (n:Str) (b:Int) (g:Str→Int):AN n "R" b (AI "R" g)=BG g (plF "R") (.num b) (D2 n "R" (g "imm")):=by kernel_rfl
theorem acW (n:Str) (b:Int) (g:Str→Int):AN n "I" b (AI "I" g)=BG g (plF "I") (.num b) (D2 n "I" (g "imm")):=by kernel_rfl
theorem acX (n:Str) (b:Int) (g:Str→Int):AN n "H" b (AI "H" g)=BG g (plF "H") (.num b) (D2 n "H" (g "imm")):=by kernel_rfl
theorem acY (n:Str) (b:Int) (g:Str→Int):AN n "S" b (AI "S" g)=BG g (plF "S") (.num b) (D2 n "S" (g "imm")):=by kernel_rfl
theorem acZ (n:Str) (b:Int) (g:Str→Int):AN n "B" b (AI "B" g)=BG g (plF "B") (.num b) (D2 n "B" (g "imm")):=by kernel_rfl
theorem adA (n:Str) (b:Int) (g:Str→Int):AN n "U" b (AI "U" g)=BG g (plF "U") (.num b) (D2 n "U" (g "imm")):=by kernel_rfl
theorem adB (n:Str) (b:Int) (g:Str→Int):AN n "J" b (AI "J" g)=BG g (plF "J") (.num b) (D2 n "J" (g "imm")):=by kernel_rfl
theorem adC (n:Str) (b:Int) (g:Str→Int):AN n "F" b (AI "F" g)=BG g (plF "F") (.num b) (D2 n "F" (g "imm")):=by kernel_rfl
theorem alV (n:Str) (b:Int) (g:Str→Int):AN n "E" b (AI "E" g)=BG g (plF "E") (.num b) (D2 n "E" (g "imm")):=by kernel_rfl
theorem XZ (n:Str) (b:Int) (g:Str→Int):AN n "R" b (A5 "R" g "rd")=BG g (plF "R") (.num b) (D2 n "R" (g "imm")):=by kernel_rfl
theorem X1 (n:Str) (b:Int) (g:Str→Int):AN n "R" b (A4 "R" g "rd")=DK "rd" g (plF "R") (.num b):=by kernel_rfl
theorem TM (n:Str) (b:Int) (g:Str→Int):AN n "R" b (A5 "R" g "rs1")=BG g (plF "R") (.num b) (D2 n "R" (g "imm")):=by kernel_rfl
theorem TN (n:Str) (b:Int) (g:Str→Int):AN n "R" b (A4 "R" g "rs1")=DK "rs1" g (plF "R") (.num b):=by kernel_rfl
theorem TO (n:Str) (b:Int) (g:Str→Int):AN n "R" b (A5 "R" g "rs2")=BG g (plF "R") (.num b) (D2 n "R" (g "imm")):=by kernel_rfl
theorem TQ (n:Str) (b:Int) (g:Str→Int):AN n "R" b (A4 "R" g "rs2")=DK "rs2" g (plF "R") (.num b):=by kernel_rfl
theorem X2 (n:Str) (b:Int) (g:Str→Int):AN n "I" b (A5 "I" g "rd")=BG g (plF "I") (.num b) (D2 n "I" (g "imm")):=by kernel_rfl
theorem X3 (n:Str) (b:Int) (g:Str→Int):AN n "I" b (A4 "I" g "rd")=DK "rd" g (plF "I") (.num b):=by kernel_rfl
theorem TR (n:Str) (b:Int) (g:Str→Int):AN n "I" b (A5 "I" g "rs1")=BG g (plF "I") (.num b) (D2 n "I" (g "imm")):=by kernel_rfl
theorem TS (n:Str) (b:Int) (g:Str→Int):AN n "I" b (A4 "I" g "rs1")=DK "rs1" g (plF "I") (.num b):=by kernel_rfl
theorem TT (n:Str) (b:Int) (g:Str→Int):AN n "I" b (A4 "I" g "imm")=BG g (plF "I") (.num b) (fun _=>excI n):=by kernel_rfl
theorem X4 (n:Str) (b:Int) (g:Str→Int):AN n "H" b (A5 "H" g "rd")=BG g (plF "H") (.num b) (D2 n "H" (g "imm")):=by kernel_rfl
theorem X5 (n:Str) (b:Int) (g:Str→Int):AN n "H" b (A4 "H" g "rd")=DK "rd" g (plF "H") (.num b):=by kernel_rfl
theorem TU (n:Str) (b:Int) (g:Str→Int):AN n "H" b (A5 "H" g "rs1")=BG g (plF "H") (.num b) (D2 n "H" (g "imm")):=by kernel_rfl
theorem TV (n:Str) (b:Int) (g:Str→Int):AN n "H" b (A4 "H" g "rs1")=DK "rs1" g (plF "H") (.num b):=by kernel_rfl
theorem TX (n:Str) (b:Int) (g:Str→Int):AN n "H" b (A4 "H" g "imm")=BG g (plF "H") (.num b) (fun _=>excI n):=by kernel_rfl
theorem TY (n:Str) (b:Int) (g:Str→Int):AN n "S" b (A5 "S" g "rs1")=BG g (plF "S") (.num b) (D2 n "S" (g "imm")):=by kernel_rfl
theorem TZ (n:Str) (b:Int) (g:Str→Int):AN n "S" b (A4 "S" g "rs1")=DK "rs1" g (plF "S") (.num b):=by kernel_rfl
theorem T0 (n:Str) (b:Int) (g:Str→Int):AN n "S" b (A5 "S" g "rs2")=BG g (plF "S") (.num b) (D2 n "S" (g "imm")):=by kernel_rfl
theorem T1 (n:Str) (b:Int) (g:Str→Int):AN n "S" b (A4 "S" g "rs2")=DK "rs2" g (plF "S") (.num b):=by kernel_rfl
theorem T2 (n:Str) (b:Int) (g:Str→Int):AN n "S" b (A4 "S" g "imm")=BG g (plF "S") (.num b) (fun _=>excI n):=by kernel_rfl
theorem T3 (n:Str) (b:Int) (g:Str→Int):AN n "B" b (A5 "B" g "rs1")=BG g (plF "B") (.num b) (D2 n "B" (g "imm")):=by kernel_rfl
theorem T5 (n:Str) (b:Int) (g:Str→Int):AN n "B" b (A4 "B" g "rs1")=DK "rs1" g (plF "B") (.num b):=by kernel_rfl
theorem T6 (n:Str) (b:Int) (g:Str→Int):AN n "B" b (A5 "B" g "rs2")=BG g (plF "B") (.num b) (D2 n "B" (g "imm")):=by kernel_rfl
theorem T7 (n:Str) (b:Int) (g:Str→Int):AN n "B" b (A4 "B" g "rs2")=DK "rs2" g (plF "B") (.num b):=by kernel_rfl
theorem T8 (n:Str) (b:Int) (g:Str→Int):AN n "B" b (A4 "B" g "imm")=BG g (plF "B") (.num b) (fun _=>excI n):=by kernel_rfl
theorem X6 (n:Str) (b:Int) (g:Str→Int):AN n "U" b (A5 "U" g "rd")=BG g (plF "U") (.num b) (D2 n "U" (g "imm")):=by kernel_rfl
theorem X7 (n:Str) (b:Int) (g:Str→Int):AN n "U" b (A4 "U" g "rd")=DK "rd" g (plF "U") (.num b):=by kernel_rfl
theorem T9 (n:Str) (b:Int) (g:Str→Int):AN n "U" b (A4 "U" g "imm")=BG g (plF "U") (.num b) (fun _=>excI n):=by kernel_rfl
theorem X8 (n:Str) (b:Int) (g:Str→Int):AN n "J" b (A5 "J" g "rd")=BG g (plF "J") (.num b) (D2 n "J" (g "imm")):=by kernel_rfl
theorem X9 (n:Str) (b:Int) (g:Str→Int):AN n "J" b (A4 "J" g "rd")=DK "rd" g (plF "J") (.num b):=by kernel_rfl
theorem UA (n:Str) (b:Int) (g:Str→Int):AN n "J" b (A4 "J" g "imm")=BG g (plF "J") (.num b) (fun _=>excI n):=by kernel_rfl
theorem UB (n:Str) (b:Int) (g:Str→Int):AN n "F" b (A4 "F" g "imm")=BG g (plF "F") (.num b) (fun _=>excI n):=by kernel_rfl
theorem YA {k:Str} (h:k.length≤1000) {P:AV→Prop} {X:Prop} (hX:X):HX (excT k) P X:=by
 refine AD ?_ ⟨hX⟩
 have:("no register for " : Str).length=16:=by decide +kernel
 omega
theorem C0 {n:Str} (h:n.length≤1000) {P:AV→Prop} {X:Prop} (hX:X):HX (excI n) P X:=by
 have h1:("a number that " : Str).length=14:=by decide +kernel
 have h2:(" can't hold" : Str).length=11:=by decide +kernel
 have h3:(("a number that " : Str)++n).length=14+n.length:=by rw [← h1]; exact Array.size_append
 refine AD (by omega) (AD (by omega) ⟨hX⟩)
theorem BD {g:Str→Int} {K:AV→R AV}:∀ {l:List (Str×Int)} {a:AV},(∀ p∈l,p.1.length≤1000)→(∃ p∈l,¬ (0≤g p.1∧g p.1<32))→HX (BG g l a K) (fun _=>False) True
 | [],_,_,⟨p,hp,_⟩=>(nomatch hp)
 | (k,s) :: l,a,hl,hw=>by
  refine AD (fun _=>trivial) (BN (fun _=>YA (hl (k,s) (by simp)) trivial) fun e=>?_)
  have hv:0≤g k∧g k<32:=by simpa using e
  refine AD (by omega) (BD (fun p hp=>hl p (by simp [hp])) ?_)
  (refine ob12 hw ?_; clear hw; intro p hp hn)
  rcases List.mem_cons.mp hp with q | q
  ·rw [q] at hn; exact (hn hv).elim
  ·exact ⟨p,q,hn⟩
theorem BE {d:Str} {g:Str→Int}:∀ {l:List (Str×Int)} {a:AV},(∀ p∈l,p.1.length≤1000)→(∃ p∈l,p.1=d)→HX (DK d g l a) (fun _=>False) True
 | [],_,_,⟨p,hp,_⟩=>(nomatch hp)
 | (k,s) :: l,a,hl,hw=>by
  unfold DK
  cases q:k==d with
  | true=>exact YA (hl (k,s) (by simp)) trivial
  | false=>
   refine AD (fun _=>trivial) (BN (fun _=>YA (hl (k,s) (by simp)) trivial) fun e=>?_)
   have hv:0≤g k∧g k<32:=by simpa using e
   refine AD (by omega) (BE (fun p hp=>hl p (by simp [hp])) ?_)
   (refine ob12 hw ?_; clear hw; intro p hp hn)
   rcases List.mem_cons.mp hp with z | z
   ·rw [z] at hn
    have hn:k=d:=hn
    rw [hn,beq_self_eq_true] at q; cases q
   ·exact ⟨p,z,hn⟩
noncomputable def alW (g:Str→Int):List (Str×Int)→AV→AV
 | [],a=>a
 | (k,s) :: l,a=>alW g l (.sym (Builtin.bitOr (match BF a with | some (i,_)=>i | none=>0) (g k*2 ^ s.toNat)))
theorem AU {g:Str→Int} {K:AV→R AV} {P:AV→Prop} {X:Prop}:∀ {l:List (Str×Int)} {a:AV},(∀ p∈l,0≤g p.1∧g p.1<32)→HX (K (alW g l a)) P X→HX (BG g l a K) P X
 | [],_,_,h=>h
 | (k,s) :: l,a,hl,h=>by
  have hv:=hl (k,s) (by simp)
  have hv:0≤g k∧g k<32:=hv
  refine AD (fun _=>trivial) (BN (fun e=>?_) fun _=>AD (by omega) (AU (fun p hp=>hl p (by simp [hp])) h))
  have:(decide (0≤g k)&&decide (g k<32))=true:=by simp [hv]
  rw [this] at e; cases e
theorem FK {P:AV→Prop}:∀ {x:R AV},x.Holds (fun _=>P (.bool false)) (P (.bool true))→(JH x).Holds P False
 | .ret _,h=>h
 | .exc,h=>h
 | .ite _ _ _,⟨h1,h2⟩=>⟨fun e=>FK (h1 e),fun e=>FK (h2 e)⟩
 | .need _ _,⟨h1,h2⟩=>⟨h1,FK h2⟩
 | .fail,h=>h
theorem A6 {n:Str} {F:AV} (h:HX (encX [.str n,F]) (fun _=>False) True):okB (refX [.str n,F])∧valB (refX [.str n,F])=true:=
 XM (b:=true) (x:=refX [.str n,F]) (FK (P:=fun av=>∃ s,AQ av=some (true,s)) (R.holds_mono (fun _ q=>q.elim) (fun _=>⟨false,rfl⟩) h.out))
theorem ahK {n:Str} {F:AV} (h:HX (encX [.str n,F]) (fun _=>True) False):okB (refX [.str n,F])∧valB (refX [.str n,F])=false:=
 XM (b:=false) (x:=refX [.str n,F]) (FK (P:=fun av=>∃ s,AQ av=some (false,s)) (R.holds_mono (fun _ _=>⟨false,rfl⟩) (fun q=>q.elim) h.out))
theorem YB {n:Str} {F:AV} {i:Int} (h:HX (encX [.str n,F]) (fun av=>∃ s,BF av=some (i,s)) False):okI (encN [.str n,F])∧valI (encN [.str n,F])=i:=
 acR (x:=encN [.str n,F]) (OV h.out)
theorem YC (n:Str) (F:AV):acV n F=.need (("no such instruction: " : Str).length+n.length≤16777216) .exc:=by kernel_rfl
theorem abM {n:Str} {F:AV} (hm:memS n DY=false) (h:n.length≤1000):HX (encX [.str n,F]) (fun _=>False) True:=by
 show HX ((BQ cX 1 (AC 25) 60 (JX n F) (AE 25) []).bind endF) _ _
 refine CZ ?_
 rw [acU]
 refine AR ?_
 rw [alQ,hm]
 show HX (acV n F) _ _
 rw [YC]
 refine AD ?_ ⟨trivial⟩
 have:("no such instruction: " : Str).length=21:=by decide +kernel
 omega
end
end Mine
end
section
open PySem.SeqAt MineH
namespace Mine
section
variable {prog:Program} {w:World} {h:Heap}
noncomputable def nd (x:Int) (r:R AV):R AV:=.need (x.natAbs<2 ^ 64) r
noncomputable abbrev bo (x y:Int):Int:=Builtin.bitOr x y
theorem alX (v:Int):ER [.str "I",.sym v]=nd (Builtin.bitAnd v 4095) (.ret (.sym (up (Builtin.bitAnd v 4095) 20))):=by kernel_rfl
theorem alY (v:Int):ER [.str "H",.sym v]=nd v (.ret (.sym (up v 20))):=by kernel_rfl
theorem alZ (v:Int):ER [.str "S",.sym v]=nd (im v 5 127) (nd (Builtin.bitAnd v 31) (.ret (.sym (bo (up (im v 5 127) 25) (up (Builtin.bitAnd v 31) 7))))):=by kernel_rfl
theorem amA (v:Int):ER [.str "B",.sym v]=nd (im v 12 1) (nd (im v 5 63) (nd (im v 1 15) (nd (im v 11 1) (.ret (.sym (bo (bo (bo (up (im v 12 1) 31) (up (im v 5 63) 25)) (up (im v 1 15) 8)) (up (im v 11 1) 7))))))):=by kernel_rfl
theorem amB (v:Int):ER [.str "U",.sym v]=nd v (.ret (.sym (up v 12))):=by kernel_rfl
theorem amC (v:Int):ER [.str "J",.sym v]=nd (im v 20 1) (nd (im v 1 1023) (nd (im v 11 1) (nd (im v 12 255) (.ret (.sym (bo (bo (bo (up (im v 20 1) 31) (up (im v 1 1023) 21)) (up (im v 11 1) 20)) (up (im v 12 255) 12))))))):=by kernel_rfl
theorem amD (v:Int):ER [.str "F",.sym v]=nd v (.ret (.sym (up v 20))):=by kernel_rfl
theorem amE (b v:Int):∀ f∈AB,abL [.sym b,.str f,.sym v]=(ER [.str f,.sym v]).bind fun x=>binA .BitOr (.sym (Builtin.bitAnd (Builtin.bitAnd b (Builtin.bitNot (C6 f))) 4294967295)) x:=
 by7 (by kernel_rfl) (by kernel_rfl) (by kernel_rfl) (by kernel_rfl) (by kernel_rfl) (by kernel_rfl) (by kernel_rfl)
noncomputable def layT:Int→List (Int×Nat)→R AV
 | a,[]=>.ret (.sym a)
 | a,(v,p) :: l=>.need (a.natAbs<2 ^ 64) (layT (a*2+bitV v p) l)
noncomputable def layF:Nat→Int→List (Int×Nat)→R AV
 | 0,a,l=>layT a l
 | _+1,a,[]=>.ret (.sym a)
 | k+1,a,(v,p) :: l=>layF k (a*2+bitV v p) l
def layL (f:Str) (x y z d s t v:Int):List (Int×Nat):=match f==("R" : Str) with
 | true=>down z 0 7++down t 0 5++down s 0 5++down y 0 3++down d 0 5++down x 0 7
 | false=>match f==("I" : Str) with
  | true=>down v 0 12++down s 0 5++down y 0 3++down d 0 5++down x 0 7
  | false=>match f==("H" : Str) with
   | true=>down z 0 7++down v 0 5++down s 0 5++down y 0 3++down d 0 5++down x 0 7
   | false=>match f==("S" : Str) with
    | true=>down v 5 7++down t 0 5++down s 0 5++down y 0 3++down v 0 5++down x 0 7
    | false=>match f==("B" : Str) with
     | true=>down v 12 1++down v 5 6++down t 0 5++down s 0 5++down y 0 3++down v 1 4++down v 11 1++down x 0 7
     | false=>match f==("U" : Str) with
      | true=>down v 0 20++down d 0 5++down x 0 7
      | false=>match f==("J" : Str) with
       | true=>down v 20 1++down v 1 10++down v 11 1++down v 12 8++down d 0 5++down x 0 7
       | false=>match f==("F" : Str) with
        | true=>down z 10 4++down v 0 8++down z 5 5++down y 0 3++down z 0 5++down x 0 7
        | false=>down z 0 25++down x 0 7
noncomputable def YD (x y z d s t v:Int):AV:=.dS ["x","y","z","d","s","t","i"] [.sym x,.sym y,.sym z,.sym d,.sym s,.sym t,.sym v]
theorem by9 {Q:Str→Prop} (h0:Q "R") (h1:Q "I") (h2:Q "H") (h3:Q "S") (h4:Q "B") (h5:Q "U") (h6:Q "J") (h7:Q "F") (h8:Q "E"):∀ f∈formsL,Q f:=by
 intro f hf
 simp only [formsL,List.mem_cons,List.not_mem_nil,or_false] at hf
 rcases hf with q | q | q | q | q | q | q | q | q<;>(rw [q]; assumption)
theorem amF (x y z d s t v:Int):∀ f∈formsL,IM [drF f,YD x y z d s t v]=layF 1 0 (layL f x y z d s t v):=
 by9 (by kernel_rfl) (by kernel_rfl) (by kernel_rfl) (by kernel_rfl) (by kernel_rfl) (by kernel_rfl) (by kernel_rfl) (by kernel_rfl) (by kernel_rfl)
noncomputable def atE (f:Str):Nat:=match f==("H" : Str) with
 | true=>8
 | false=>match f==("F" : Str) with
  | true=>5
  | false=>1
theorem atF (v:Int):∀ f∈AB,IM [drF f,.dS ["i"] [.sym v]]=layF (atE f) 0 (layL f 0 0 0 0 0 0 v):=
 by7 (by kernel_rfl) (by kernel_rfl) (by kernel_rfl) (by kernel_rfl) (by kernel_rfl) (by kernel_rfl) (by kernel_rfl)
theorem atG (x y z:Int):∀ f∈(["F","E"]:List Str),IM [drF f,.dS ["x","y","z"] [.sym x,.sym y,.sym z]]=layF 1 0 (layL f x y z 0 0 0 0):=by
 intro f hf
 simp only [List.mem_cons,List.not_mem_nil,or_false] at hf
 rcases hf with q | q<;>rw [q]<;>kernel_rfl
end
end Mine
end
section
open PySem.SeqAt MineH
namespace Mine
section
variable {prog:Program} {w:World} {h:Heap}
def st20 (i:Nat):Stmt:=stAt (AE 20) i
theorem amG:AE 20=[st20 0,st20 1]:=by kernel_rfl
def amH:Expr:=match st20 0 with | .Assign _ v _=>v | _=>.Name "" ⟨0,0,0,0⟩
def amI:Expr:=match st20 0 with | .Assign (t :: _) _ _=>t | _=>.Name "" ⟨0,0,0,0⟩
noncomputable def fitE (n:Str) (v:Int):AEnv:=[("name",.str n),("imm",.sym v)]
def ahL (n f:Str) (v:Int):AEnv:=[("by",.num (G2 f)),("most",.num (HQ f - G2 f)),("least",.num (DJ f)),("name",.str n),("imm",.sym v)]
theorem atH (n:Str) (v:Int):IK c9 0 59 (AC 20) (BQ c9 0 (AC 20) 59) (fitE n v) (st20 0) []=(FA c9 0 59 (AC 20) (fitE n v) amH []).bind fun p=>(match ED (AC 20) amI p.2 (fitE n v) with | some env'=>.ret (.nxt,env',p.1.getD []) | none=>.fail):=by kernel_rfl
theorem amJ (n:Str) (v:Int):FA c9 0 59 (AC 20) (fitE n v) amH []=seqE (seqE (DC (J2 [] (.dS DY HR) (.str n))) [] (fun a sl=>DC (J2 sl a (.num 0)))) [] (fun b sl=>DC (J2 sl G9 b)):=by kernel_rfl
theorem amK (n:Str) (v b:Int):∀ f∈AB,((seqE (seqE (DC (.ret (.tup [.str f,.num b]))) [] (fun a sl=>DC (J2 sl a (.num 0)))) [] (fun b sl=>DC (J2 sl G9 b))).bind fun p=>(match ED (AC 20) amI p.2 (fitE n v) with | some env'=>.ret (.nxt,env',p.1.getD []) | none=>.fail):RS)=.ret (.nxt,ahL n f v,[]):=
 by7 (by kernel_rfl) (by kernel_rfl) (by kernel_rfl) (by kernel_rfl) (by kernel_rfl) (by kernel_rfl) (by kernel_rfl)
def fitB (f:Str) (v:Int):Bool:=(decide (DJ f≤v)&&decide (v≤HQ f - G2 f))&&(v.fmod (G2 f)==0)
theorem atI (n:Str) (v:Int):∀ f∈AB,(BQ c9 0 (AC 20) 59 (ahL n f v) [st20 1] []).bind endF=.need (decide (DJ f≤v)=true→True) (.need ((decide (DJ f≤v)&&decide (v≤HQ f - G2 f))=true→true=true∧True) (.ret (.sb (fitB f v)))):=
 by7 (by kernel_rfl) (by kernel_rfl) (by kernel_rfl) (by kernel_rfl) (by kernel_rfl) (by kernel_rfl) (by kernel_rfl)
noncomputable def avJ:List Int:=[]
theorem YE (v:Int):∀ f∈AB,fitB f v=hrF f v:=by
 have one:∀ (lo hi:Int),(decide (lo≤v)&&decide (v≤hi - 1)&&(v.fmod 1==0))=(decide (lo≤v)&&decide (v<hi)&&(v.fmod 1==0)):=fun lo hi=>by
  have:decide (v≤hi - 1)=decide (v<hi):=by
   by_cases q:v<hi
   ·rw [decide_eq_true q,decide_eq_true (by omega)]
   ·rw [decide_eq_false q,decide_eq_false (by omega)]
  rw [this]
 have two:∀ (lo hi:Int),hi % 2=0→(decide (lo≤v)&&decide (v≤hi - 2)&&(v.fmod 2==0))=(decide (lo≤v)&&decide (v<hi)&&(v.fmod 2==0)):=fun lo hi he=>by
  by_cases z:v % 2=0
  ·have:decide (v≤hi - 2)=decide (v<hi):=by
    by_cases q:v<hi
    ·rw [decide_eq_true q,decide_eq_true (by omega)]
    ·rw [decide_eq_false q,decide_eq_false (by omega)]
   rw [this]
  ·have:(v.fmod 2==0)=false:=by
    rw [Int.fmod_eq_emod_of_nonneg _ (by decide)]
    exact beq_eq_false_iff_ne.mpr z
   rw [this,Bool.and_false,Bool.and_false]
 exact by7 (one _ _) (one _ _) (one _ _) (two _ _ (by decide)) (one _ _) (two _ _ (by decide)) (one _ _)
theorem CR {n f:Str} {b:Int} (hf:f∈AB) (hl:D7 DY HR n=some (.tup [.str f,.num b])) (v:Int):okB (EK [.str n,.sym v])∧valB (EK [.str n,.sym v])=hrF f v:=by
 have hh:HX (EK [.str n,.sym v]) (fun av=>av=.sb (fitB f v)) False:=by
  refine XH (C:=c9) (d:=0) (i:=20) (by kernel_rfl) ?_
  show HX (BQ c9 0 (AC 20) 60 (fitE n v) (AE 20) []) _ False
  rw [amG]
  refine AR ?_
  rw [atH,amJ,LN hl,amK n v b f hf]
  refine AK ?_
  show HX (BQ c9 0 (AC 20) 59 (ahL n f v) [st20 1] []) _ False
  refine O5 ?_
  rw [atI n v f hf]
  exact AD (fun _=>trivial) (AD (fun _=>⟨rfl,trivial⟩) (AK rfl))
 rw [← YE v f hf]
 exact XM (R.holds_mono (fun av e=>⟨true,by rw [e]; rfl⟩) id hh.out)
end
end Mine
end
section
open PySem.SeqAt MineH
namespace Mine
section
noncomputable def pcN (v:Int) (k n:Nat):Nat:=(v / 2 ^ k % 2 ^ n).toNat
theorem D5 (n:Nat):(0:Int)<2 ^ n:=Int.pow_pos (by decide)
theorem H7 (v:Int) (k n:Nat):((pcN v k n:Nat):Int)=v / 2 ^ k % 2 ^ n:=Int.toNat_of_nonneg (Int.emod_nonneg _ (Int.ne_of_gt (D5 n)))
theorem CT (v:Int) (k n:Nat):pcN v k n<2 ^ n:=by
 have h:=Int.emod_lt_of_pos (v / 2 ^ k) (D5 n)
 rw [← H7 v k n] at h
 exact_mod_cast h
theorem ES (v:Int) (k n:Nat):im v (k:Int) ((2 ^ n - 1:Nat):Int)=((pcN v k n:Nat):Int):=by
 unfold im sh
 rw [HP,Int.toNat_natCast,MZ,H7]
theorem abN (v:Int) (n:Nat):Builtin.bitAnd v ((2 ^ n - 1:Nat):Int)=((pcN v 0 n:Nat):Int):=by
 rw [HP,H7,Int.pow_zero,Int.ediv_one]
theorem M8 {v:Int} {n:Nat} (h1:0≤v) (h2:v<2 ^ n):v=((pcN v 0 n:Nat):Int):=by rw [H7,Int.pow_zero,Int.ediv_one,Int.emod_eq_of_lt h1 h2]
theorem R5 {v:Nat} (n:Nat) (h:v<2 ^ n):v &&& (2 ^ n - 1)=v:=by rw [Nat.and_two_pow_sub_one_eq_mod,Nat.mod_eq_of_lt h]
theorem ahM (B m:Nat):Builtin.bitAnd (B:Int) (Builtin.bitNot (m:Int))=((B - (B &&& m):Nat):Int):=by
 unfold Builtin.bitAnd
 rw [CY,decide_eq_true (Int.natCast_nonneg B),decide_eq_false (show ¬ (0:Int) ≤ -(m:Int) - 1 by omega)]
 dsimp only
 rw [CY,show (-(-(m:Int) - 1) - 1).toNat=m by omega,Int.toNat_natCast]
 have:B &&& m≤B:=Nat.and_le_left
 omega
theorem atJ {B:Nat} (h:B<4294967296):Builtin.bitAnd (B:Int) 4294967295=(B:Int):=by
 rw [show (4294967295:Int)=((2 ^ 32 - 1:Nat):Int) from rfl,HP]
 omega
theorem ahN (v:Int) (k:Nat):pcN v k 0=0:=by unfold pcN; rw [Int.pow_zero,Int.emod_one]; rfl
theorem M9 (v:Int) (k n:Nat):pcN v k (n+1)=pcN v k n+2 ^ n*pcN v (k+n) 1:=by
 have e:=XN (v / 2 ^ k) n
 rw [Int.ediv_ediv_of_nonneg (Int.le_of_lt (D5 k)),← Int.pow_add] at e
 have a:=H7 v k (n+1)
 have b:=H7 v k n
 have c:=H7 v (k+n) 1
 rw [e] at a
 rw [show (2:Int) ^ 1=2 from rfl] at c
 rw [← b,← c] at a
 have d:((pcN v (k+n) 1:Nat):Int)*2 ^ n=((2 ^ n*pcN v (k+n) 1:Nat):Int):=by push_cast; rw [Int.mul_comm]
 rw [d] at a
 omega
theorem GP (v:Int) (k m:Nat):∀ n,pcN v k (m+n)=pcN v k m+2 ^ m*pcN v (k+m) n
 | 0=>by rw [ahN]; rfl
 | n+1=>by rw [← Nat.add_assoc,M9,GP v k m n,M9 v (k+m) n,Nat.mul_add,Nat.add_assoc,Nat.pow_add,Nat.mul_assoc,Nat.add_assoc k m n]
inductive Fd where
 | o | x | y | z | d | s | t | i (k:Nat)
abbrev Ly:=List (Nat×Fd)
structure Rg where
 (x y z d s t:Nat)
 v:Int
noncomputable def Rg.val (e:Rg) (n:Nat):Fd→Nat
 | .o=>0 | .x=>e.x | .y=>e.y | .z=>e.z | .d=>e.d | .s=>e.s | .t=>e.t | .i k=>pcN e.v k n
noncomputable def Rg.ev (e:Rg):Ly→List (Nat×Nat)
 | []=>[]
 | p :: L=>(p.1,e.val p.1 p.2) :: e.ev L
noncomputable def kp (p:Fd→Bool):Ly→Ly
 | []=>[]
 | a :: L=>(a.1,bif p a.2 then a.2 else .o) :: kp p L
noncomputable def wsum:Ly→Nat
 | []=>0
 | a :: L=>a.1+wsum L
structure Rg.Ok (e:Rg) (zw:Nat):Prop where
 x:e.x<2 ^ 7
 y:e.y<2 ^ 3
 z:e.z<2 ^ zw
 d:e.d<2 ^ 5
 s:e.s<2 ^ 5
 t:e.t<2 ^ 5
noncomputable def wk (zw n:Nat):Fd→Bool
 | .o=>true | .x=>n==7 | .y=>n==3 | .z=>n==zw | .i _=>true | _=>n==5
noncomputable def wks (zw:Nat):Ly→Bool
 | []=>true
 | a :: L=>wk zw a.1 a.2&&wks zw L
theorem BV {zw:Nat} {a:Nat×Fd} {L:Ly} (h:wks zw (a :: L)=true):wk zw a.1 a.2=true∧wks zw L=true:=Bool.and_eq_true_iff.mp h
theorem IH {e:Rg} {zw n:Nat} (h:e.Ok zw) {a:Fd} (q:wk zw n a=true):e.val n a<2 ^ n:=by
 cases a with
 | o=>exact Nat.two_pow_pos n
 | i k=>exact CT _ _ _
 | x=>rw [eq_of_beq q]; exact h.x
 | y=>rw [eq_of_beq q]; exact h.y
 | z=>rw [eq_of_beq q]; exact h.z
 | d=>rw [eq_of_beq q]; exact h.d
 | s=>rw [eq_of_beq q]; exact h.s
 | t=>rw [eq_of_beq q]; exact h.t
theorem QP {e:Rg} {zw n:Nat} (h:e.Ok zw) {a:Fd} (q:wk zw n a=true) (b:Bool):e.val n (bif b then a else .o)<2 ^ n:=by
 cases b
 ·exact Nat.two_pow_pos n
 ·exact IH h q
theorem amL {e:Rg} {zw:Nat} (h:e.Ok zw):∀ L,wks zw L=true→pk (e.ev L)<2 ^ wsum L
 | [],_=>Nat.one_pos
 | a :: L,q=>by
  have hl:=amL h L (BV q).2
  have hv:=IH h (BV q).1
  show e.val a.1 a.2+2 ^ a.1*pk (e.ev L)<2 ^ (a.1+wsum L)
  rw [Nat.pow_add]
  have:=Nat.mul_le_mul_left (2 ^ a.1) hl
  rw [Nat.mul_succ] at this
  omega
theorem amM {e:Rg} {zw:Nat} (h:e.Ok zw) {p q:Fd→Bool} (hpq:∀ a,(p a&&q a)=false):∀ L,wks zw L=true→pk (e.ev (kp p L)) ||| pk (e.ev (kp q L))=pk (e.ev (kp (fun a=>p a||q a) L))
 | [],_=>Nat.or_self 0
 | a :: L,w=>by
  show (e.val a.1 (bif p a.2 then a.2 else .o)+2 ^ a.1*pk (e.ev (kp p L))) ||| (e.val a.1 (bif q a.2 then a.2 else .o)+2 ^ a.1*pk (e.ev (kp q L)))=e.val a.1 (bif (p a.2||q a.2) then a.2 else .o)+2 ^ a.1*pk (e.ev (kp (fun a=>p a||q a) L))
  rw [or2 _ _ (QP h (BV w).1 _) (QP h (BV w).1 _),amM h hpq L (BV w).2]
  refine congrArg (·+_) ?_
  have k:=hpq a.2
  revert k
  cases p a.2<;>cases q a.2<;>intro k<;>first | exact Nat.zero_or _ | exact Nat.or_zero _ | exact Bool.noConfusion k
theorem atK {e:Rg} {zw:Nat} {p q:Fd→Bool} {L:Ly} {a b:Int} (h:e.Ok zw) (w:wks zw L=true) (ha:a=((pk (e.ev (kp p L)):Nat):Int)) (hb:b=((pk (e.ev (kp q L)):Nat):Int)) (hpq:∀ a,(p a&&q a)=false) :
  bo a b=((pk (e.ev (kp (fun a=>p a||q a) L)):Nat):Int):=by
 rw [ha,hb,← amM h hpq L w]; exact HL _ _
noncomputable def mk (p:Fd→Bool):Ly→List (Nat×Nat)
 | []=>[]
 | a :: L=>(a.1,bif p a.2 then 2 ^ a.1 - 1 else 0) :: mk p L
theorem YF (n:Nat) (b:Bool):(bif b then 2 ^ n - 1 else 0)<2 ^ n:=by
 have:=Nat.two_pow_pos n
 cases b
 ·exact this
 ·exact Nat.sub_lt this Nat.one_pos
theorem adD {e:Rg} {zw:Nat} (h:e.Ok zw) (p:Fd→Bool):∀ L,wks zw L=true→pk (e.ev L) &&& pk (mk p L)=pk (e.ev (kp p L))
 | [],_=>Nat.and_self 0
 | a :: L,w=>by
  show (e.val a.1 a.2+2 ^ a.1*pk (e.ev L)) &&& ((bif p a.2 then 2 ^ a.1 - 1 else 0)+2 ^ a.1*pk (mk p L))=e.val a.1 (bif p a.2 then a.2 else .o)+2 ^ a.1*pk (e.ev (kp p L))
  have hv:=IH h (BV w).1
  rw [and2 _ _ hv (YF _ _),adD h p L (BV w).2]
  refine congrArg (·+_) ?_
  cases p a.2
  ·exact Nat.and_zero _
  ·exact R5 _ hv
noncomputable def zl:List Nat→List (Nat×Nat)
 | []=>[]
 | n :: l=>(n,0) :: zl l
theorem ahO:∀ l,pk (zl l)=0
 | []=>rfl
 | n :: l=>by show 0+2 ^ n*pk (zl l)=0; rw [ahO l,Nat.mul_zero]
theorem YG (n p:Nat) (l:List Nat):∀ A,p*2 ^ A.sum=pk (zl A++(n,p) :: zl l)
 | []=>by show p*1=p+2 ^ n*pk (zl l); rw [ahO]; omega
 | m :: A=>by
  show p*2 ^ (m :: A).sum=0+2 ^ m*pk (zl A++(n,p) :: zl l)
  rw [← YG n p l A,List.sum_cons,Nat.pow_add]
  rw [Nat.zero_add,Nat.mul_left_comm]
theorem BX (p k n:Nat) (A l:List Nat) (h:A.sum=k):up (p:Int) (k:Int)=((pk (zl A++(n,p) :: zl l):Nat):Int):=by rw [LM,← YG,h]
theorem BW {n v:Nat} {l:List (Nat×Nat)} (h:v<2 ^ n):fld (pk ((n,v) :: l)) 0 n=v:=by
 show (v+2 ^ n*pk l) >>> 0 % 2 ^ n=v
 rw [Nat.shiftRight_zero]; exact JR _ h
theorem AH {m u k n:Nat} {l:List (Nat×Nat)} (h:u<2 ^ m):fld (pk ((m,u) :: l)) (m+k) n=fld (pk l) k n:=by
 show (u+2 ^ m*pk l) >>> (m+k) % 2 ^ n=pk l >>> k % 2 ^ n
 rw [Nat.shiftRight_add,Nat.shiftRight_eq_div_pow _ m,H6 _ h]
noncomputable def off:Ly→Nat→Nat
 | a :: L,j+1=>a.1+off L j
 | _,_=>0
theorem adE {e:Rg} {zw:Nat} (h:e.Ok zw):∀ (L:Ly) (j n:Nat) (a:Fd),wks zw L=true→L[j]?=some (n,a)→fld (pk (e.ev L)) (off L j) n=e.val n a
 | [],_,_,_,_,q=>(nomatch q)
 | p :: L,0,n,a,w,q=>by
  have:p=(n,a):=Option.some.inj q
  subst this
  exact BW (IH h (BV w).1)
 | p :: L,j+1,n,a,w,q=>(AH (IH h (BV w).1)).trans (adE h L j n a (BV w).2 q)
noncomputable def mix (e:Rg) (p:Fd→Bool):Ly→Nat→List (Nat×Nat)
 | [],_=>[]
 | a :: L,B=>(a.1,bif p a.2 then e.val a.1 a.2 else B % 2 ^ a.1) :: mix e p L (B / 2 ^ a.1)
noncomputable def kpB (p:Fd→Bool):Ly→Nat→List (Nat×Nat)
 | [],_=>[]
 | a :: L,B=>(a.1,bif p a.2 then B % 2 ^ a.1 else 0) :: kpB p L (B / 2 ^ a.1)
theorem YH {m u v:Nat} (b:Bool) (h1:u<m) (h2:v<m):(bif b then u else v)<m:=by cases b; exact h2; exact h1
theorem adF {n w B:Nat} (h:B<2 ^ (n+w)):B / 2 ^ n<2 ^ w:=by
 rw [Nat.pow_add] at h; exact Nat.div_lt_of_lt_mul h
theorem amN (p:Fd→Bool):∀ (L:Ly) (B:Nat),B<2 ^ wsum L→B &&& pk (mk p L)=pk (kpB p L B)
 | [],B,h=>Nat.and_zero _
 | a :: L,B,h=>by
  show B &&& ((bif p a.2 then 2 ^ a.1 - 1 else 0)+2 ^ a.1*pk (mk p L))=(bif p a.2 then B % 2 ^ a.1 else 0)+2 ^ a.1*pk (kpB p L (B / 2 ^ a.1))
  have lt:=Nat.mod_lt B (Nat.two_pow_pos a.1)
  rw [← amN p L _ (adF h)]
  conv=>lhs; rw [← Nat.mod_add_div B (2 ^ a.1)]
  rw [and2 _ _ lt (YF _ _)]
  refine congrArg (·+_) ?_
  cases p a.2
  ·exact Nat.and_zero _
  ·exact R5 _ lt
theorem amO (p:Fd→Bool):∀ (L:Ly) (B:Nat),B<2 ^ wsum L→pk (kpB (fun a=>!p a) L B)+pk (kpB p L B)=B
 | [],B,h=>(Nat.lt_one_iff.mp h).symm
 | a :: L,B,h=>by
  show (bif !p a.2 then B % 2 ^ a.1 else 0)+2 ^ a.1*pk (kpB (fun a=>!p a) L (B / 2 ^ a.1))+((bif p a.2 then B % 2 ^ a.1 else 0)+2 ^ a.1*pk (kpB p L (B / 2 ^ a.1)))=B
  have ih:=congrArg (2 ^ a.1*·) (amO p L _ (adF h))
  have q:=Nat.mod_add_div B (2 ^ a.1)
  rw [show 2 ^ a.1*(pk (kpB (fun a=>!p a) L (B / 2 ^ a.1))+pk (kpB p L (B / 2 ^ a.1)))=_ from Nat.mul_add ..] at ih
  have k:(bif !p a.2 then B % 2 ^ a.1 else 0)+(bif p a.2 then B % 2 ^ a.1 else 0)=B % 2 ^ a.1:=by cases p a.2; exact Nat.add_zero _; exact Nat.zero_add _
  omega
theorem or_B {e:Rg} {zw:Nat} (h:e.Ok zw) (p:Fd→Bool):∀ (L:Ly) (B:Nat),wks zw L=true→pk (kpB (fun a=>!p a) L B) ||| pk (e.ev (kp p L))=pk (mix e p L B)∧pk (kpB (fun a=>!p a) L B)+pk (e.ev (kp p L))=pk (mix e p L B)∧pk (mix e p L B)<2 ^ wsum L
 | [],B,_=>⟨Nat.or_self 0,rfl,Nat.one_pos⟩
 | a :: L,B,w=>by
  refine ob03 (or_B h p L (B / 2 ^ a.1) (BV w).2) fun h1 h2 h3=>?_
  have lt:=Nat.mod_lt B (Nat.two_pow_pos a.1)
  have hv:=IH h (BV w).1
  have e0:pk (mix e p (a :: L) B)=(bif p a.2 then e.val a.1 a.2 else B % 2 ^ a.1)+2 ^ a.1*pk (mix e p L (B / 2 ^ a.1)):=rfl
  have e1:pk (kpB (fun a=>!p a) (a :: L) B)=(bif !p a.2 then B % 2 ^ a.1 else 0)+2 ^ a.1*pk (kpB (fun a=>!p a) L (B / 2 ^ a.1)):=rfl
  have e2:pk (e.ev (kp p (a :: L)))=e.val a.1 (bif p a.2 then a.2 else .o)+2 ^ a.1*pk (e.ev (kp p L)):=rfl
  rw [e0,e1,e2]
  refine ⟨?_,?_,?_⟩
  ·rw [or2 _ _ (YH _ lt (Nat.two_pow_pos _)) (QP h (BV w).1 _),h1]
   refine congrArg (·+_) ?_
   cases p a.2
   ·exact Nat.or_zero _
   ·exact Nat.zero_or _
  ·rw [← h2,Nat.mul_add]
   have k:(bif !p a.2 then B % 2 ^ a.1 else 0)+e.val a.1 (bif p a.2 then a.2 else .o)=(bif p a.2 then e.val a.1 a.2 else B % 2 ^ a.1):=by cases p a.2; exact Nat.add_zero _; exact Nat.zero_add _
   omega
  ·show _<2 ^ (a.1+wsum L)
   rw [Nat.pow_add]
   have k:=YH (p a.2) hv lt
   have m:=Nat.mul_le_mul_left (2 ^ a.1) h3
   rw [Nat.mul_succ] at m
   omega
theorem CS {e:Rg} {zw:Nat} (h:e.Ok zw) {p:Fd→Bool}:∀ (L:Ly) (B j n:Nat) (a:Fd),wks zw L=true→L[j]?=some (n,a)→p a=true→fld (pk (mix e p L B)) (off L j) n=e.val n a
 | [],_,_,_,_,_,q,_=>(nomatch q)
 | b :: L,B,0,n,a,w,q,pa=>by
  have:b=(n,a):=Option.some.inj q
  subst this
  have e0:mix e p ((n,a) :: L) B=(n,bif p a then e.val n a else B % 2 ^ n) :: mix e p L (B / 2 ^ n):=rfl
  rw [e0,pa]
  exact BW (IH h (BV w).1)
 | b :: L,B,j+1,n,a,w,q,pa=>(AH (YH _ (IH h (BV w).1) (Nat.mod_lt _ (Nat.two_pow_pos _)))).trans (CS h L _ j n a (BV w).2 q pa)
theorem G4 {e:Rg} {zw:Nat} (h:e.Ok zw) (p:Fd→Bool) (L:Ly) {B:Nat} (hB:B<4294967296) (w:wks zw L=true) (hs:wsum L=32) {M W:Int} (hM:M=((pk (mk p L):Nat):Int)) (hW:W=((pk (e.ev (kp p L)):Nat):Int)) :
  pk (mix e p L B)<4294967296∧bo (Builtin.bitAnd (Builtin.bitAnd (B:Int) (Builtin.bitNot M)) 4294967295) W=((pk (mix e p L B):Nat):Int)∧((pk (mix e p L B):Nat):Int)=(B:Int) - Builtin.bitAnd (B:Int) M+W:=by
 have hB':B<2 ^ wsum L:=by rw [hs]; exact hB
 refine ob03 (or_B h p L B w) fun h1 h2 h3=>?_
 have a:=amN p L B hB'
 have s:=amO p L B hB'
 have d:B - pk (kpB p L B)=pk (kpB (fun a=>!p a) L B):=by omega
 rw [hs] at h3
 refine ⟨h3,?_,?_⟩
 ·rw [hM,hW,ahM,a,d,atJ (by omega),← h1]; exact HL _ _
 ·rw [hM,hW,BC,a,← h2]; omega
theorem EU {V:Int} {k n u:Nat} (hv:V / 2 ^ k % 2 ^ n=(u:Int)):lay 0 (down V k n)=((pk [(n,u)]:Nat):Int):=by
 rw [M1,hv,Int.zero_mul,Int.zero_add]; rfl
theorem AL {l:List (Int×Nat)} {m:List (Nat×Nat)} {V:Int} {k n u:Nat} (h:lay 0 l=((pk m:Nat):Int)) (hv:V / 2 ^ k % 2 ^ n=(u:Int)):lay 0 (l++down V k n)=((pk ((n,u) :: m):Nat):Int):=by
 rw [XO,M1,hv,h]
 show _=((u+2 ^ n*pk m:Nat):Int)
 push_cast
 rw [Int.mul_comm]; omega
theorem nm {x n:Nat} (h:x<2 ^ n):(x:Int) / 2 ^ 0 % 2 ^ n=(x:Int):=by
 rw [Int.pow_zero,Int.ediv_one,Int.emod_eq_of_lt (Int.natCast_nonneg x) (by exact_mod_cast h)]
theorem nv (v:Int) (k n:Nat):v / 2 ^ k % 2 ^ n=((pcN v k n:Nat):Int):=(H7 v k n).symm
theorem HS {z:Int} {u n:Nat} {r:R AV} {P:AV→Prop} {X:Prop} (e:z=(u:Int)) (hu:u<2 ^ n) (hn:Nat.ble n 64=true) (h:HX r P X):HX (nd z r) P X:=
 AD (by rw [e,Int.natAbs_natCast]; exact Nat.lt_of_lt_of_le hu (Nat.pow_le_pow_right (by decide) (Nat.le_of_ble_eq_true hn))) h
theorem adG (v:Int) (k n:Nat):pcN v k (n+1) / 2 ^ n=pcN v (k+n) 1:=by
 rw [M9,H6 _ (CT v k n)]
theorem R6 {v:Int} (n:Nat) (h1 : -2 ^ n≤v) (h2:v<2 ^ n) {c:Prop} [Decidable c] (hc:c↔pcN v n 1=1):((pcN v 0 (n+1):Nat):Int) - (if c then 2 ^ (n+1) else 0)=v:=by
 have e1:=H7 v n 1
 have e2:=M9 v 0 n
 rw [Nat.zero_add] at e2
 have e3:=H7 v 0 n
 have e4:=Int.mul_ediv_add_emod v (2 ^ n)
 have hp:=D5 n
 rw [Int.pow_zero,Int.ediv_one] at e3
 rw [e2,Int.natCast_add,e3]
 rw [show (2:Int) ^ 1=2 from rfl] at e1
 rcases Int.lt_or_le v 0 with q | q
 ·have d:v / 2 ^ n = -1:=by
   have:=Int.ediv_lt_of_lt_mul hp (show v<0*2 ^ n by omega)
   have:=Int.le_ediv_of_mul_le hp (show -1*2 ^ n≤v by omega)
   omega
  rw [d] at e1 e4
  have p1:pcN v n 1=1:=by omega
  rw [if_pos (hc.mpr p1),p1,Nat.mul_one,Int.pow_succ]
  push_cast; omega
 ·have d:v / 2 ^ n=0:=Int.ediv_eq_zero_of_lt q h2
  rw [d] at e1 e4
  have p1:pcN v n 1=0:=by omega
  rw [if_neg (fun z=>by have:=hc.mp z; omega),p1,Nat.mul_zero]
  omega
noncomputable def lwR:Ly:=[(7,.x),(5,.d),(3,.y),(5,.s),(5,.t),(7,.z)]
noncomputable def lwI:Ly:=[(7,.x),(5,.d),(3,.y),(5,.s),(12,.i 0)]
noncomputable def lwH:Ly:=[(7,.x),(5,.d),(3,.y),(5,.s),(5,.i 0),(7,.z)]
noncomputable def lwS:Ly:=[(7,.x),(5,.i 0),(3,.y),(5,.s),(5,.t),(7,.i 5)]
noncomputable def lwB:Ly:=[(7,.x),(1,.i 11),(4,.i 1),(3,.y),(5,.s),(5,.t),(6,.i 5),(1,.i 12)]
noncomputable def lwU:Ly:=[(7,.x),(5,.d),(20,.i 0)]
noncomputable def lwJ:Ly:=[(7,.x),(5,.d),(8,.i 12),(1,.i 11),(10,.i 1),(1,.i 20)]
noncomputable def lwF:Ly:=[(7,.x),(5,.o),(3,.y),(5,.o),(8,.i 0),(4,.o)]
noncomputable def lwE:Ly:=[(7,.x),(25,.z)]
noncomputable def lyF (f:Str):Ly:=match f==("R" : Str) with
 | true=>lwR
 | false=>match f==("I" : Str) with
 | true=>lwI
 | false=>match f==("H" : Str) with
 | true=>lwH
 | false=>match f==("S" : Str) with
 | true=>lwS
 | false=>match f==("B" : Str) with
 | true=>lwB
 | false=>match f==("U" : Str) with
 | true=>lwU
 | false=>match f==("J" : Str) with
 | true=>lwJ
 | false=>match f==("F" : Str) with
 | true=>lwF
 | false=>lwE
noncomputable def AG (f:Str) (x y z d s t:Nat) (v:Int):Nat:=pk ((Rg.mk x y z d s t v).ev (lyF f))
noncomputable def BO (f:Str) (x y z:Nat):Nat:=match f==("E" : Str) with | true=>x+y*4096+z*128 | false=>x+y*4096+z*33554432
noncomputable def mkN (f:Str):Nat:=match f==("R" : Str) with
 | true=>4261441663
 | false=>match f==("I" : Str) with
 | true=>28799
 | false=>match f==("H" : Str) with
 | true=>4261441663
 | false=>match f==("S" : Str) with
 | true=>28799
 | false=>match f==("B" : Str) with
 | true=>28799
 | false=>match f==("U" : Str) with
 | true=>127
 | false=>match f==("J" : Str) with
 | true=>127
 | false=>match f==("F" : Str) with
 | true=>4027580415
 | false=>4294967295
def AM (f:Str) (x y z:Nat):Prop:=match f==("R" : Str) with
 | true=>x<128∧y<8∧z<128
 | false=>match f==("I" : Str) with
 | true=>x<128∧y<8∧z=0
 | false=>match f==("H" : Str) with
 | true=>x<128∧y<8∧z<128
 | false=>match f==("S" : Str) with
 | true=>x<128∧y<8∧z=0
 | false=>match f==("B" : Str) with
 | true=>x<128∧y<8∧z=0
 | false=>match f==("U" : Str) with
 | true=>x<128∧y=0∧z=0
 | false=>match f==("J" : Str) with
 | true=>x<128∧y=0∧z=0
 | false=>match f==("F" : Str) with
 | true=>x<128∧y<8∧z=0
 | false=>x<128∧y=0∧z<33554432
noncomputable def tag:Fd→Nat
 | .o=>9 | .d=>1 | .s=>2 | .t=>3 | .i k=>10+k | _=>0
noncomputable def inS:List Nat→Nat→Bool
 | [],_=>false
 | j :: l,n=>Nat.beq j n||inS l n
noncomputable def disj:List Nat→List Nat→Bool
 | [],_=>true
 | j :: l,m=>!inS m j&&disj l m
theorem YI (m:List Nat) (n:Nat):∀ l,inS (l++m) n=(inS l n||inS m n)
 | []=>rfl
 | j :: l=>by show (Nat.beq j n||inS (l++m) n)=((Nat.beq j n||inS l n)||inS m n); rw [YI m n l,Bool.or_assoc]
theorem YJ {m:List Nat} (n:Nat):∀ l,disj l m=true→(inS l n&&inS m n)=false
 | [],_=>rfl
 | j :: l,h=>by
  have h1:=(Bool.and_eq_true_iff.mp h).1
  have ih:=YJ n l (Bool.and_eq_true_iff.mp h).2
  show ((Nat.beq j n||inS l n)&&inS m n)=false
  cases q:Nat.beq j n
  ·exact ih
  ·rw [Nat.eq_of_beq_eq_true q] at h1
   rw [Bool.not_eq_true'] at h1
   rw [h1]; exact Bool.and_false _
noncomputable abbrev kpS (l:List Nat) (L:Ly):Ly:=kp (fun a=>inS l (tag a)) L
theorem C7 {e:Rg} {zw:Nat} {l m:List Nat} {L:Ly} {a b:Int} (h:e.Ok zw) (w:wks zw L=true) (ha:a=((pk (e.ev (kpS l L)):Nat):Int)) (hb:b=((pk (e.ev (kpS m L)):Nat):Int)) (hd:disj l m=true) :
  bo a b=((pk (e.ev (kpS (l++m) L)):Nat):Int):=by
 rw [atK h w ha hb fun a=>YJ (tag a) l hd,show kpS (l++m) L=kp (fun a=>inS l (tag a)||inS m (tag a)) L from congrArg (kp · L) (funext fun a=>YI m (tag a) l)]
theorem b3 (x y z:Nat):x+y*4096+z*33554432=pk [(7,x),(5,0),(3,y),(5,0),(5,0),(7,z)]:=by simp only [pk]; omega
theorem bE (x z:Nat):x+z*128=pk [(7,x),(25,z)]:=by simp only [pk]; omega
theorem b2 (x y:Nat) (A l:List Nat) (h:A.sum=5):x+y*4096=pk ((7,x) :: (zl A++(3,y) :: zl l)):=by
 show x+y*4096=x+2 ^ 7*pk (zl A++(3,y) :: zl l)
 rw [← YG,h]; omega
theorem b1 (x:Nat) (l:List Nat):x=pk ((7,x) :: zl l):=by
 show x=x+2 ^ 7*pk (zl l)
 rw [ahO]; rfl
theorem ok7 {x y z d s t:Nat} {v:Int} (hd:d<32) (hs:s<32) (ht:t<32) (hx:x<128) (hy:y<8) (hz:z<128):(Rg.mk x y z d s t v).Ok 7:=⟨hx,hy,hz,hd,hs,ht⟩
theorem ok0 (v:Int) (zw:Nat):(Rg.mk 0 0 0 0 0 0 v).Ok zw:=⟨Nat.two_pow_pos _,Nat.two_pow_pos _,Nat.two_pow_pos _,Nat.two_pow_pos _,Nat.two_pow_pos _,Nat.two_pow_pos _⟩
theorem lt_0 {a n:Nat} (h:a=0):a<n+1:=h ▸ Nat.succ_pos n
theorem EV {e:Rg} {zw:Nat} {L:Ly} {p:Fd→Bool} {M b:Nat} (h:e.Ok zw) (w:wks zw L=true) (hs:wsum L=32) (hM:M=pk (mk p L)) (hb:b=pk (e.ev (kp p L))):pk (e.ev L) &&& M=b∧pk (e.ev L)<4294967296:=
 ⟨by rw [hM,hb]; exact adD h p L w,by have:=amL h L w; rw [hs] at this; exact this⟩
theorem CF {e:Rg} {zw:Nat} {L:Ly} (h:e.Ok zw) (w:wks zw L=true) (j n:Nat) (a:Fd) (q:L[j]?=some (n,a)):im ((pk (e.ev L):Nat):Int) ((off L j:Nat):Int) ((2 ^ n - 1:Nat):Int)=((e.val n a:Nat):Int):=by rw [FJ,adE h L j n a w q]
noncomputable def isI:Fd→Bool
 | .i _=>true
 | _=>false
noncomputable def isB (a:Fd):Bool:=inS [0,9] (tag a)
theorem ok_R {x y z d s t:Nat} {v:Int} (hx:AM "R" x y z) (hd:d<32) (hs:s<32) (ht:t<32):(Rg.mk x y z d s t v).Ok 7:=ok7 hd hs ht hx.1 hx.2.1 hx.2.2
theorem adH {x y z:Nat} (d s t:Nat) (v:Int) (hx:AM "R" x y z):BO "R" x y z=pk ((Rg.mk x y z d s t v).ev (kpS [0] lwR)):=b3 x y z
theorem ok_I {x y z d s t:Nat} {v:Int} (hx:AM "I" x y z) (hd:d<32) (hs:s<32) (ht:t<32):(Rg.mk x y z d s t v).Ok 7:=ok7 hd hs ht hx.1 hx.2.1 (lt_0 hx.2.2)
theorem adI {x y z:Nat} (d s t:Nat) (v:Int) (hx:AM "I" x y z):BO "I" x y z=pk ((Rg.mk x y z d s t v).ev (kpS [0] lwI)):=by
 rw [show z=0 from hx.2.2]
 show x+y*4096+0*33554432=_
 rw [Nat.zero_mul,Nat.add_zero]; exact b2 x y [5] [5,12] rfl
theorem ok_H {x y z d s t:Nat} {v:Int} (hx:AM "H" x y z) (hd:d<32) (hs:s<32) (ht:t<32):(Rg.mk x y z d s t v).Ok 7:=ok7 hd hs ht hx.1 hx.2.1 hx.2.2
theorem adJ {x y z:Nat} (d s t:Nat) (v:Int) (hx:AM "H" x y z):BO "H" x y z=pk ((Rg.mk x y z d s t v).ev (kpS [0] lwH)):=b3 x y z
theorem ok_S {x y z d s t:Nat} {v:Int} (hx:AM "S" x y z) (hd:d<32) (hs:s<32) (ht:t<32):(Rg.mk x y z d s t v).Ok 7:=ok7 hd hs ht hx.1 hx.2.1 (lt_0 hx.2.2)
theorem adK {x y z:Nat} (d s t:Nat) (v:Int) (hx:AM "S" x y z):BO "S" x y z=pk ((Rg.mk x y z d s t v).ev (kpS [0] lwS)):=by
 rw [show z=0 from hx.2.2]
 show x+y*4096+0*33554432=_
 rw [Nat.zero_mul,Nat.add_zero]; exact b2 x y [5] [5,5,7] rfl
theorem ok_B {x y z d s t:Nat} {v:Int} (hx:AM "B" x y z) (hd:d<32) (hs:s<32) (ht:t<32):(Rg.mk x y z d s t v).Ok 7:=ok7 hd hs ht hx.1 hx.2.1 (lt_0 hx.2.2)
theorem adL {x y z:Nat} (d s t:Nat) (v:Int) (hx:AM "B" x y z):BO "B" x y z=pk ((Rg.mk x y z d s t v).ev (kpS [0] lwB)):=by
 rw [show z=0 from hx.2.2]
 show x+y*4096+0*33554432=_
 rw [Nat.zero_mul,Nat.add_zero]; exact b2 x y [1,4] [5,5,6,1] rfl
theorem ok_U {x y z d s t:Nat} {v:Int} (hx:AM "U" x y z) (hd:d<32) (hs:s<32) (ht:t<32):(Rg.mk x y z d s t v).Ok 7:=ok7 hd hs ht hx.1 (lt_0 hx.2.1) (lt_0 hx.2.2)
theorem adM {x y z:Nat} (d s t:Nat) (v:Int) (hx:AM "U" x y z):BO "U" x y z=pk ((Rg.mk x y z d s t v).ev (kpS [0] lwU)):=by
 rw [show y=0 from hx.2.1,show z=0 from hx.2.2]
 show x+0*4096+0*33554432=_
 rw [Nat.zero_mul]; exact b1 x [5,20]
theorem ok_J {x y z d s t:Nat} {v:Int} (hx:AM "J" x y z) (hd:d<32) (hs:s<32) (ht:t<32):(Rg.mk x y z d s t v).Ok 7:=ok7 hd hs ht hx.1 (lt_0 hx.2.1) (lt_0 hx.2.2)
theorem adN {x y z:Nat} (d s t:Nat) (v:Int) (hx:AM "J" x y z):BO "J" x y z=pk ((Rg.mk x y z d s t v).ev (kpS [0] lwJ)):=by
 rw [show y=0 from hx.2.1,show z=0 from hx.2.2]
 show x+0*4096+0*33554432=_
 rw [Nat.zero_mul]; exact b1 x [5,8,1,10,1]
theorem ok_F {x y z d s t:Nat} {v:Int} (hx:AM "F" x y z) (hd:d<32) (hs:s<32) (ht:t<32):(Rg.mk x y z d s t v).Ok 7:=ok7 hd hs ht hx.1 hx.2.1 (lt_0 hx.2.2)
theorem adO {x y z:Nat} (d s t:Nat) (v:Int) (hx:AM "F" x y z):BO "F" x y z=pk ((Rg.mk x y z d s t v).ev (kpS [0] lwF)):=by
 rw [show z=0 from hx.2.2]
 show x+y*4096+0*33554432=_
 rw [Nat.zero_mul,Nat.add_zero]; exact b2 x y [5] [5,8,4] rfl
theorem ok_E {x y z d s t:Nat} {v:Int} (hx:AM "E" x y z) (hd:d<32) (hs:s<32) (ht:t<32):(Rg.mk x y z d s t v).Ok 25:=⟨hx.1,lt_0 hx.2.1,hx.2.2,hd,hs,ht⟩
theorem amP {x y z:Nat} (d s t:Nat) (v:Int) (hx:AM "E" x y z):BO "E" x y z=pk ((Rg.mk x y z d s t v).ev (kpS [0] lwE)):=by
 rw [show y=0 from hx.2.1]
 show x+0*4096+z*128=_
 rw [Nat.zero_mul,Nat.add_zero]; exact bE x z
theorem YK {v:Int} (h1 : -2048≤v) (h2:v<2048):HX (ER [.str "I",.sym v]) (fun av=>av=.sym ((AG "I" 0 0 0 0 0 0 v:Nat):Int)) False:=by
 rw [alX]
 exact HS (abN v 12) (CT _ _ _) rfl (AK (congrArg AV.sym ((congrArg (up · 20) (abN v 12)).trans (BX (pcN v 0 12) 20 12 [7,5,3,5] [] rfl))))
theorem YL {v:Int} (h1:0≤v) (h2:v<32):HX (ER [.str "H",.sym v]) (fun av=>av=.sym ((AG "H" 0 0 0 0 0 0 v:Nat):Int)) False:=by
 rw [alY]
 exact HS (M8 (n:=5) h1 h2) (CT _ _ _) rfl (AK (congrArg AV.sym ((congrArg (up · 20) (M8 (n:=5) h1 h2)).trans (BX (pcN v 0 5) 20 5 [7,5,3,5] [7] rfl))))
theorem YM {v:Int} (h1 : -2048≤v) (h2:v<2048):HX (ER [.str "S",.sym v]) (fun av=>av=.sym ((AG "S" 0 0 0 0 0 0 v:Nat):Int)) False:=by
 rw [alZ]
 exact HS (ES v 5 7) (CT _ _ _) rfl (HS (abN v 5) (CT _ _ _) rfl (AK (congrArg AV.sym (C7 (l:=[15]) (m:=[10]) (ok0 v 7) (L:=lwS) rfl ((congrArg (up · 25) (ES v 5 7)).trans (BX (pcN v 5 7) 25 7 [7,5,3,5,5] [] rfl)) ((congrArg (up · 7) (abN v 5)).trans (BX (pcN v 0 5) 7 5 [7] [3,5,5,7] rfl)) rfl))))
theorem YN {v:Int} (h1 : -4096≤v) (h2:v<4096):HX (ER [.str "B",.sym v]) (fun av=>av=.sym ((AG "B" 0 0 0 0 0 0 v:Nat):Int)) False:=by
 rw [amA]
 exact HS (ES v 12 1) (CT _ _ _) rfl (HS (ES v 5 6) (CT _ _ _) rfl (HS (ES v 1 4) (CT _ _ _) rfl (HS (ES v 11 1) (CT _ _ _) rfl (AK (congrArg AV.sym (C7 (l:=[22,15,11]) (m:=[21]) (ok0 v 7) (L:=lwB) rfl (C7 (l:=[22,15]) (m:=[11]) (ok0 v 7) (L:=lwB) rfl (C7 (l:=[22]) (m:=[15]) (ok0 v 7) (L:=lwB) rfl ((congrArg (up · 31) (ES v 12 1)).trans (BX (pcN v 12 1) 31 1 [7,1,4,3,5,5,6] [] rfl)) ((congrArg (up · 25) (ES v 5 6)).trans (BX (pcN v 5 6) 25 6 [7,1,4,3,5,5] [1] rfl)) rfl) ((congrArg (up · 8) (ES v 1 4)).trans (BX (pcN v 1 4) 8 4 [7,1] [3,5,5,6,1] rfl)) rfl) ((congrArg (up · 7) (ES v 11 1)).trans (BX (pcN v 11 1) 7 1 [7] [4,3,5,5,6,1] rfl)) rfl))))))
theorem YO {v:Int} (h1:0≤v) (h2:v<1048576):HX (ER [.str "U",.sym v]) (fun av=>av=.sym ((AG "U" 0 0 0 0 0 0 v:Nat):Int)) False:=by
 rw [amB]
 exact HS (M8 (n:=20) h1 h2) (CT _ _ _) rfl (AK (congrArg AV.sym ((congrArg (up · 12) (M8 (n:=20) h1 h2)).trans (BX (pcN v 0 20) 12 20 [7,5] [] rfl))))
theorem YQ {v:Int} (h1 : -1048576≤v) (h2:v<1048576):HX (ER [.str "J",.sym v]) (fun av=>av=.sym ((AG "J" 0 0 0 0 0 0 v:Nat):Int)) False:=by
 rw [amC]
 exact HS (ES v 20 1) (CT _ _ _) rfl (HS (ES v 1 10) (CT _ _ _) rfl (HS (ES v 11 1) (CT _ _ _) rfl (HS (ES v 12 8) (CT _ _ _) rfl (AK (congrArg AV.sym (C7 (l:=[30,11,21]) (m:=[22]) (ok0 v 7) (L:=lwJ) rfl (C7 (l:=[30,11]) (m:=[21]) (ok0 v 7) (L:=lwJ) rfl (C7 (l:=[30]) (m:=[11]) (ok0 v 7) (L:=lwJ) rfl ((congrArg (up · 31) (ES v 20 1)).trans (BX (pcN v 20 1) 31 1 [7,5,8,1,10] [] rfl)) ((congrArg (up · 21) (ES v 1 10)).trans (BX (pcN v 1 10) 21 10 [7,5,8,1] [1] rfl)) rfl) ((congrArg (up · 20) (ES v 11 1)).trans (BX (pcN v 11 1) 20 1 [7,5,8] [10,1] rfl)) rfl) ((congrArg (up · 12) (ES v 12 8)).trans (BX (pcN v 12 8) 12 8 [7,5] [1,10,1] rfl)) rfl))))))
theorem YR {v:Int} (h1:0≤v) (h2:v<256):HX (ER [.str "F",.sym v]) (fun av=>av=.sym ((AG "F" 0 0 0 0 0 0 v:Nat):Int)) False:=by
 rw [amD]
 exact HS (M8 (n:=8) h1 h2) (CT _ _ _) rfl (AK (congrArg AV.sym ((congrArg (up · 20) (M8 (n:=8) h1 h2)).trans (BX (pcN v 0 8) 20 8 [7,5,3,5] [4] rfl))))
theorem amQ {x y z d s t:Nat} {v:Int} (hx:AM "R" x y z) (hd:d<32) (hs:s<32) (ht:t<32):bo (bo (bo (((BO "R" x y z:Nat):Int)) (((d:Nat):Int)*2 ^ (7:Int).toNat)) (((s:Nat):Int)*2 ^ (15:Int).toNat)) (((t:Nat):Int)*2 ^ (20:Int).toNat)=((AG "R" x y z d s t v:Nat):Int):=
 have ok:=ok_R (v:=v) hx hd hs ht
 C7 (l:=[0,1,2]) (m:=[3]) ok rfl (C7 (l:=[0,1]) (m:=[2]) ok rfl (C7 (l:=[0]) (m:=[1]) ok rfl (congrArg Nat.cast (adH d s t v hx)) (BX d 7 5 [7] [3,5,5,7] rfl) rfl) (BX s 15 5 [7,5,3] [5,7] rfl) rfl) (BX t 20 5 [7,5,3,5] [7] rfl) rfl
theorem amR {x y z d s t:Nat} {v:Int} (hx:AM "I" x y z) (hd:d<32) (hs:s<32) (ht:t<32):bo (bo (bo (((BO "I" x y z:Nat):Int)) (((d:Nat):Int)*2 ^ (7:Int).toNat)) (((s:Nat):Int)*2 ^ (15:Int).toNat)) ((AG "I" 0 0 0 0 0 0 v:Nat):Int)=((AG "I" x y z d s t v:Nat):Int):=
 have ok:=ok_I (v:=v) hx hd hs ht
 C7 (l:=[0,1,2]) (m:=[10]) (L:=lwI) ok rfl (C7 (l:=[0,1]) (m:=[2]) ok rfl (C7 (l:=[0]) (m:=[1]) ok rfl (congrArg Nat.cast (adI d s t v hx)) (BX d 7 5 [7] [3,5,12] rfl) rfl) (BX s 15 5 [7,5,3] [12] rfl) rfl) rfl rfl
theorem amS {x y z d s t:Nat} {v:Int} (hx:AM "H" x y z) (hd:d<32) (hs:s<32) (ht:t<32):bo (bo (bo (((BO "H" x y z:Nat):Int)) (((d:Nat):Int)*2 ^ (7:Int).toNat)) (((s:Nat):Int)*2 ^ (15:Int).toNat)) ((AG "H" 0 0 0 0 0 0 v:Nat):Int)=((AG "H" x y z d s t v:Nat):Int):=
 have ok:=ok_H (v:=v) hx hd hs ht
 C7 (l:=[0,1,2]) (m:=[10]) (L:=lwH) ok rfl (C7 (l:=[0,1]) (m:=[2]) ok rfl (C7 (l:=[0]) (m:=[1]) ok rfl (congrArg Nat.cast (adJ d s t v hx)) (BX d 7 5 [7] [3,5,5,7] rfl) rfl) (BX s 15 5 [7,5,3] [5,7] rfl) rfl) rfl rfl
theorem amT {x y z d s t:Nat} {v:Int} (hx:AM "S" x y z) (hd:d<32) (hs:s<32) (ht:t<32):bo (bo (bo (((BO "S" x y z:Nat):Int)) (((s:Nat):Int)*2 ^ (15:Int).toNat)) (((t:Nat):Int)*2 ^ (20:Int).toNat)) ((AG "S" 0 0 0 0 0 0 v:Nat):Int)=((AG "S" x y z d s t v:Nat):Int):=
 have ok:=ok_S (v:=v) hx hd hs ht
 C7 (l:=[0,2,3]) (m:=[10,15]) (L:=lwS) ok rfl (C7 (l:=[0,2]) (m:=[3]) ok rfl (C7 (l:=[0]) (m:=[2]) ok rfl (congrArg Nat.cast (adK d s t v hx)) (BX s 15 5 [7,5,3] [5,7] rfl) rfl) (BX t 20 5 [7,5,3,5] [7] rfl) rfl) rfl rfl
theorem amU {x y z d s t:Nat} {v:Int} (hx:AM "B" x y z) (hd:d<32) (hs:s<32) (ht:t<32):bo (bo (bo (((BO "B" x y z:Nat):Int)) (((s:Nat):Int)*2 ^ (15:Int).toNat)) (((t:Nat):Int)*2 ^ (20:Int).toNat)) ((AG "B" 0 0 0 0 0 0 v:Nat):Int)=((AG "B" x y z d s t v:Nat):Int):=
 have ok:=ok_B (v:=v) hx hd hs ht
 C7 (l:=[0,2,3]) (m:=[21,11,15,22]) (L:=lwB) ok rfl (C7 (l:=[0,2]) (m:=[3]) ok rfl (C7 (l:=[0]) (m:=[2]) ok rfl (congrArg Nat.cast (adL d s t v hx)) (BX s 15 5 [7,1,4,3] [5,6,1] rfl) rfl) (BX t 20 5 [7,1,4,3,5] [6,1] rfl) rfl) rfl rfl
theorem amV {x y z d s t:Nat} {v:Int} (hx:AM "U" x y z) (hd:d<32) (hs:s<32) (ht:t<32):bo (bo (((BO "U" x y z:Nat):Int)) (((d:Nat):Int)*2 ^ (7:Int).toNat)) ((AG "U" 0 0 0 0 0 0 v:Nat):Int)=((AG "U" x y z d s t v:Nat):Int):=
 have ok:=ok_U (v:=v) hx hd hs ht
 C7 (l:=[0,1]) (m:=[10]) (L:=lwU) ok rfl (C7 (l:=[0]) (m:=[1]) ok rfl (congrArg Nat.cast (adM d s t v hx)) (BX d 7 5 [7] [20] rfl) rfl) rfl rfl
theorem amW {x y z d s t:Nat} {v:Int} (hx:AM "J" x y z) (hd:d<32) (hs:s<32) (ht:t<32):bo (bo (((BO "J" x y z:Nat):Int)) (((d:Nat):Int)*2 ^ (7:Int).toNat)) ((AG "J" 0 0 0 0 0 0 v:Nat):Int)=((AG "J" x y z d s t v:Nat):Int):=
 have ok:=ok_J (v:=v) hx hd hs ht
 C7 (l:=[0,1]) (m:=[22,21,11,30]) (L:=lwJ) ok rfl (C7 (l:=[0]) (m:=[1]) ok rfl (congrArg Nat.cast (adN d s t v hx)) (BX d 7 5 [7] [8,1,10,1] rfl) rfl) rfl rfl
theorem amX {x y z d s t:Nat} {v:Int} (hx:AM "F" x y z) (hd:d<32) (hs:s<32) (ht:t<32):bo (((BO "F" x y z:Nat):Int)) ((AG "F" 0 0 0 0 0 0 v:Nat):Int)=((AG "F" x y z d s t v:Nat):Int):=
 have ok:=ok_F (v:=v) hx hd hs ht
 C7 (l:=[0]) (m:=[10]) (L:=lwF) ok rfl (congrArg Nat.cast (adO d s t v hx)) rfl rfl
theorem amY {x y z d s t:Nat} {v:Int} (hx:AM "R" x y z) (hd:d<32) (hs:s<32) (ht:t<32):AG "R" x y z d s t v &&& mkN "R" = BO "R" x y z∧AG "R" x y z d s t v<4294967296:=
 EV (p:=isB) (L:=lwR) (ok_R hx hd hs ht) rfl rfl (by decide +kernel) (adH d s t v hx)
theorem adP {x y z d s t:Nat} {v:Int} (hx:AM "I" x y z) (hd:d<32) (hs:s<32) (ht:t<32):AG "I" x y z d s t v &&& mkN "I" = BO "I" x y z∧AG "I" x y z d s t v<4294967296:=
 EV (p:=isB) (L:=lwI) (ok_I hx hd hs ht) rfl rfl (by decide +kernel) (adI d s t v hx)
theorem adQ {x y z d s t:Nat} {v:Int} (hx:AM "H" x y z) (hd:d<32) (hs:s<32) (ht:t<32):AG "H" x y z d s t v &&& mkN "H" = BO "H" x y z∧AG "H" x y z d s t v<4294967296:=
 EV (p:=isB) (L:=lwH) (ok_H hx hd hs ht) rfl rfl (by decide +kernel) (adJ d s t v hx)
theorem adR {x y z d s t:Nat} {v:Int} (hx:AM "S" x y z) (hd:d<32) (hs:s<32) (ht:t<32):AG "S" x y z d s t v &&& mkN "S" = BO "S" x y z∧AG "S" x y z d s t v<4294967296:=
 EV (p:=isB) (L:=lwS) (ok_S hx hd hs ht) rfl rfl (by decide +kernel) (adK d s t v hx)
theorem adS {x y z d s t:Nat} {v:Int} (hx:AM "B" x y z) (hd:d<32) (hs:s<32) (ht:t<32):AG "B" x y z d s t v &&& mkN "B" = BO "B" x y z∧AG "B" x y z d s t v<4294967296:=
 EV (p:=isB) (L:=lwB) (ok_B hx hd hs ht) rfl rfl (by decide +kernel) (adL d s t v hx)
theorem adT {x y z d s t:Nat} {v:Int} (hx:AM "U" x y z) (hd:d<32) (hs:s<32) (ht:t<32):AG "U" x y z d s t v &&& mkN "U" = BO "U" x y z∧AG "U" x y z d s t v<4294967296:=
 EV (p:=isB) (L:=lwU) (ok_U hx hd hs ht) rfl rfl (by decide +kernel) (adM d s t v hx)
theorem adU {x y z d s t:Nat} {v:Int} (hx:AM "J" x y z) (hd:d<32) (hs:s<32) (ht:t<32):AG "J" x y z d s t v &&& mkN "J" = BO "J" x y z∧AG "J" x y z d s t v<4294967296:=
 EV (p:=isB) (L:=lwJ) (ok_J hx hd hs ht) rfl rfl (by decide +kernel) (adN d s t v hx)
theorem adV {x y z d s t:Nat} {v:Int} (hx:AM "F" x y z) (hd:d<32) (hs:s<32) (ht:t<32):AG "F" x y z d s t v &&& mkN "F" = BO "F" x y z∧AG "F" x y z d s t v<4294967296:=
 EV (p:=isB) (L:=lwF) (ok_F hx hd hs ht) rfl rfl (by decide +kernel) (adO d s t v hx)
theorem amZ {x y z d s t:Nat} {v:Int} (hx:AM "E" x y z) (hd:d<32) (hs:s<32) (ht:t<32):AG "E" x y z d s t v &&& mkN "E" = BO "E" x y z∧AG "E" x y z d s t v<4294967296:=
 EV (p:=isB) (L:=lwE) (ok_E hx hd hs ht) rfl rfl (by decide +kernel) (amP d s t v hx)
theorem YS {x y z d s t:Nat} {v:Int} (hx:AM "R" x y z) (hd:d<32) (hs:s<32) (ht:t<32):A3 "R" ((AG "R" x y z d s t v:Nat):Int) "rd" = (d:Int):=CF (L:=lwR) (ok_R hx hd hs ht) rfl 1 5 .d rfl
theorem UC {x y z d s t:Nat} {v:Int} (hx:AM "R" x y z) (hd:d<32) (hs:s<32) (ht:t<32):A3 "R" ((AG "R" x y z d s t v:Nat):Int) "rs1" = (s:Int):=CF (L:=lwR) (ok_R hx hd hs ht) rfl 3 5 .s rfl
theorem UD {x y z d s t:Nat} {v:Int} (hx:AM "R" x y z) (hd:d<32) (hs:s<32) (ht:t<32):A3 "R" ((AG "R" x y z d s t v:Nat):Int) "rs2" = (t:Int):=CF (L:=lwR) (ok_R hx hd hs ht) rfl 4 5 .t rfl
theorem YT {x y z d s t:Nat} {v:Int} (hx:AM "I" x y z) (hd:d<32) (hs:s<32) (ht:t<32):A3 "I" ((AG "I" x y z d s t v:Nat):Int) "rd" = (d:Int):=CF (L:=lwI) (ok_I hx hd hs ht) rfl 1 5 .d rfl
theorem UE {x y z d s t:Nat} {v:Int} (hx:AM "I" x y z) (hd:d<32) (hs:s<32) (ht:t<32):A3 "I" ((AG "I" x y z d s t v:Nat):Int) "rs1" = (s:Int):=CF (L:=lwI) (ok_I hx hd hs ht) rfl 3 5 .s rfl
theorem YU {x y z d s t:Nat} {v:Int} (hx:AM "H" x y z) (hd:d<32) (hs:s<32) (ht:t<32):A3 "H" ((AG "H" x y z d s t v:Nat):Int) "rd" = (d:Int):=CF (L:=lwH) (ok_H hx hd hs ht) rfl 1 5 .d rfl
theorem UF {x y z d s t:Nat} {v:Int} (hx:AM "H" x y z) (hd:d<32) (hs:s<32) (ht:t<32):A3 "H" ((AG "H" x y z d s t v:Nat):Int) "rs1" = (s:Int):=CF (L:=lwH) (ok_H hx hd hs ht) rfl 3 5 .s rfl
theorem UG {x y z d s t:Nat} {v:Int} (hx:AM "S" x y z) (hd:d<32) (hs:s<32) (ht:t<32):A3 "S" ((AG "S" x y z d s t v:Nat):Int) "rs1" = (s:Int):=CF (L:=lwS) (ok_S hx hd hs ht) rfl 3 5 .s rfl
theorem UH {x y z d s t:Nat} {v:Int} (hx:AM "S" x y z) (hd:d<32) (hs:s<32) (ht:t<32):A3 "S" ((AG "S" x y z d s t v:Nat):Int) "rs2" = (t:Int):=CF (L:=lwS) (ok_S hx hd hs ht) rfl 4 5 .t rfl
theorem UI {x y z d s t:Nat} {v:Int} (hx:AM "B" x y z) (hd:d<32) (hs:s<32) (ht:t<32):A3 "B" ((AG "B" x y z d s t v:Nat):Int) "rs1" = (s:Int):=CF (L:=lwB) (ok_B hx hd hs ht) rfl 4 5 .s rfl
theorem UJ {x y z d s t:Nat} {v:Int} (hx:AM "B" x y z) (hd:d<32) (hs:s<32) (ht:t<32):A3 "B" ((AG "B" x y z d s t v:Nat):Int) "rs2" = (t:Int):=CF (L:=lwB) (ok_B hx hd hs ht) rfl 5 5 .t rfl
theorem YV {x y z d s t:Nat} {v:Int} (hx:AM "U" x y z) (hd:d<32) (hs:s<32) (ht:t<32):A3 "U" ((AG "U" x y z d s t v:Nat):Int) "rd" = (d:Int):=CF (L:=lwU) (ok_U hx hd hs ht) rfl 1 5 .d rfl
theorem YW {x y z d s t:Nat} {v:Int} (hx:AM "J" x y z) (hd:d<32) (hs:s<32) (ht:t<32):A3 "J" ((AG "J" x y z d s t v:Nat):Int) "rd" = (d:Int):=CF (L:=lwJ) (ok_J hx hd hs ht) rfl 1 5 .d rfl
theorem adW {W:Nat} (hW:W<4294967296) {v:Int} (h1 : -2048≤v) (h2:v<2048) (h3:v % 1=0) (g4:fld W 20 12=pcN v 0 12):immV "I" (W:Int)=v:=by
 rw [akP hW,show DW "I" = seg 20 0 12 from rfl,B7,g4,Nat.pow_zero,Nat.mul_one]
 exact R6 11 h1 h2 (by rw [← adG v 0 11,← g4,← GN hW 20 12 rfl,R2])
theorem adX {W:Nat} (hW:W<4294967296) {v:Int} (h1:0≤v) (h2:v<32) (h3:v % 1=0) (g4:fld W 20 5=pcN v 0 5):immV "H" (W:Int)=v:=by
 rw [akV W,show DW "H" = seg 20 0 5 from rfl,B7,g4,Nat.pow_zero,Nat.mul_one]; exact (M8 h1 h2).symm
theorem adY {W:Nat} (hW:W<4294967296) {v:Int} (h1 : -2048≤v) (h2:v<2048) (h3:v % 1=0) (g1:fld W 7 5=pcN v 0 5) (g5:fld W 25 7=pcN v 5 7):immV "S" (W:Int)=v:=by
 have e:=GP v 0 5 7
 rw [Nat.zero_add] at e
 rw [akQ hW,show DW "S" = seg 7 0 5++seg 25 5 7 from rfl,CM,B7,CE,g1,g5,Nat.pow_zero,Nat.mul_one,← Int.natCast_add,Nat.mul_comm,← e]
 exact R6 11 h1 h2 (by rw [← adG v 5 6,← g5,← GN hW 25 7 rfl,R2])
theorem adZ {W:Nat} (hW:W<4294967296) {v:Int} (h1 : -4096≤v) (h2:v<4096) (h3:v % 2=0) (g1:fld W 7 1=pcN v 11 1) (g2:fld W 8 4=pcN v 1 4) (g6:fld W 25 6=pcN v 5 6) (g7:fld W 31 1=pcN v 12 1):immV "B" (W:Int)=v:=by
 have e0:pcN v 0 13=pcN v 0 1+2 ^ 1*pcN v 1 12:=GP v 0 1 12
 have e1:pcN v 1 12=pcN v 1 4+2 ^ 4*pcN v 5 8:=GP v 1 4 8
 have e2:pcN v 5 8=pcN v 5 6+2 ^ 6*pcN v 11 2:=GP v 5 6 2
 have e3:pcN v 11 2=pcN v 11 1+2 ^ 1*pcN v 12 1:=GP v 11 1 1
 have z:=H7 v 0 1
 rw [Int.pow_zero,Int.ediv_one,show (2:Int) ^ 1=2 from rfl,h3] at z
 have e:pcN v 11 1*2 ^ 11+pcN v 1 4*2 ^ 1+pcN v 5 6*2 ^ 5+pcN v 12 1*2 ^ 12=pcN v 0 13:=by omega
 rw [akT hW,show DW "B" = ((seg 7 11 1++seg 8 1 4)++seg 25 5 6)++seg 31 12 1 from rfl,CM,CM,CM,B7,CE,CE,CE,g1,g2,g6,g7,← Int.natCast_add,← Int.natCast_add,← Int.natCast_add,e]
 exact R6 12 h1 h2 (by rw [← g7,GN hW 31 1 rfl])
theorem aeA {W:Nat} (hW:W<4294967296) {v:Int} (h1:0≤v) (h2:v<1048576) (h3:v % 1=0) (g2:fld W 12 20=pcN v 0 20):immV "U" (W:Int)=v:=by
 rw [akX hW,show DW "U" = seg 12 0 20 from rfl,B7,g2,Nat.pow_zero,Nat.mul_one]; exact (M8 h1 h2).symm
theorem aeB {W:Nat} (hW:W<4294967296) {v:Int} (h1 : -1048576≤v) (h2:v<1048576) (h3:v % 2=0) (g2:fld W 12 8=pcN v 12 8) (g3:fld W 20 1=pcN v 11 1) (g4:fld W 21 10=pcN v 1 10) (g5:fld W 31 1=pcN v 20 1):immV "J" (W:Int)=v:=by
 have e0:pcN v 0 21=pcN v 0 1+2 ^ 1*pcN v 1 20:=GP v 0 1 20
 have e1:pcN v 1 20=pcN v 1 10+2 ^ 10*pcN v 11 10:=GP v 1 10 10
 have e2:pcN v 11 10=pcN v 11 1+2 ^ 1*pcN v 12 9:=GP v 11 1 9
 have e3:pcN v 12 9=pcN v 12 8+2 ^ 8*pcN v 20 1:=GP v 12 8 1
 have z:=H7 v 0 1
 rw [Int.pow_zero,Int.ediv_one,show (2:Int) ^ 1=2 from rfl,h3] at z
 have e:pcN v 12 8*2 ^ 12+pcN v 11 1*2 ^ 11+pcN v 1 10*2 ^ 1+pcN v 20 1*2 ^ 20=pcN v 0 21:=by omega
 rw [akU hW,show DW "J" = ((seg 12 12 8++seg 20 11 1)++seg 21 1 10)++seg 31 20 1 from rfl,CM,CM,CM,B7,CE,CE,CE,g2,g3,g4,g5,← Int.natCast_add,← Int.natCast_add,← Int.natCast_add,e]
 exact R6 20 h1 h2 (by rw [← g5,GN hW 31 1 rfl])
theorem aeC {W:Nat} (hW:W<4294967296) {v:Int} (h1:0≤v) (h2:v<256) (h3:v % 1=0) (g4:fld W 20 8=pcN v 0 8):immV "F" (W:Int)=v:=by
 rw [akW W,show DW "F" = seg 20 0 8 from rfl,B7,g4,Nat.pow_zero,Nat.mul_one]; exact (M8 h1 h2).symm
theorem anA {x y z d s t:Nat} {v:Int} (hx:AM "R" x y z) (hd:d<32) (hs:s<32) (ht:t<32):lay 0 (layL "R" x y z d s t v)=((AG "R" x y z d s t v:Nat):Int):=
 have ok:=ok_R (v:=v) hx hd hs ht
 AL (AL (AL (AL (AL (EU (nm ok.z)) (nm ok.t)) (nm ok.s)) (nm ok.y)) (nm ok.d)) (nm ok.x)
theorem anB {x y z d s t:Nat} {v:Int} (hx:AM "I" x y z) (hd:d<32) (hs:s<32) (ht:t<32):lay 0 (layL "I" x y z d s t v)=((AG "I" x y z d s t v:Nat):Int):=
 have ok:=ok_I (v:=v) hx hd hs ht
 AL (AL (AL (AL (EU (nv v 0 12)) (nm ok.s)) (nm ok.y)) (nm ok.d)) (nm ok.x)
theorem anC {x y z d s t:Nat} {v:Int} (hx:AM "H" x y z) (hd:d<32) (hs:s<32) (ht:t<32):lay 0 (layL "H" x y z d s t v)=((AG "H" x y z d s t v:Nat):Int):=
 have ok:=ok_H (v:=v) hx hd hs ht
 AL (AL (AL (AL (AL (EU (nm ok.z)) (nv v 0 5)) (nm ok.s)) (nm ok.y)) (nm ok.d)) (nm ok.x)
theorem anD {x y z d s t:Nat} {v:Int} (hx:AM "S" x y z) (hd:d<32) (hs:s<32) (ht:t<32):lay 0 (layL "S" x y z d s t v)=((AG "S" x y z d s t v:Nat):Int):=
 have ok:=ok_S (v:=v) hx hd hs ht
 AL (AL (AL (AL (AL (EU (nv v 5 7)) (nm ok.t)) (nm ok.s)) (nm ok.y)) (nv v 0 5)) (nm ok.x)
theorem anE {x y z d s t:Nat} {v:Int} (hx:AM "B" x y z) (hd:d<32) (hs:s<32) (ht:t<32):lay 0 (layL "B" x y z d s t v)=((AG "B" x y z d s t v:Nat):Int):=
 have ok:=ok_B (v:=v) hx hd hs ht
 AL (AL (AL (AL (AL (AL (AL (EU (nv v 12 1)) (nv v 5 6)) (nm ok.t)) (nm ok.s)) (nm ok.y)) (nv v 1 4)) (nv v 11 1)) (nm ok.x)
theorem anF {x y z d s t:Nat} {v:Int} (hx:AM "U" x y z) (hd:d<32) (hs:s<32) (ht:t<32):lay 0 (layL "U" x y z d s t v)=((AG "U" x y z d s t v:Nat):Int):=
 have ok:=ok_U (v:=v) hx hd hs ht
 AL (AL (EU (nv v 0 20)) (nm ok.d)) (nm ok.x)
theorem anG {x y z d s t:Nat} {v:Int} (hx:AM "J" x y z) (hd:d<32) (hs:s<32) (ht:t<32):lay 0 (layL "J" x y z d s t v)=((AG "J" x y z d s t v:Nat):Int):=
 have ok:=ok_J (v:=v) hx hd hs ht
 AL (AL (AL (AL (AL (EU (nv v 20 1)) (nv v 1 10)) (nv v 11 1)) (nv v 12 8)) (nm ok.d)) (nm ok.x)
theorem anH {x y z d s t:Nat} {v:Int} (hx:AM "F" x y z) (hd:d<32) (hs:s<32) (ht:t<32):lay 0 (layL "F" x y z d s t v)=((AG "F" x y z d s t v:Nat):Int):=
 have ok:=ok_F (v:=v) hx hd hs ht
 have hz:z=0:=hx.2.2
 by subst hz; exact AL (AL (AL (AL (AL (EU rfl) (nv v 0 8)) rfl) (nm ok.y)) rfl) (nm ok.x)
theorem anI {x y z d s t:Nat} {v:Int} (hx:AM "E" x y z) (hd:d<32) (hs:s<32) (ht:t<32):lay 0 (layL "E" x y z d s t v)=((AG "E" x y z d s t v:Nat):Int):=
 have ok:=ok_E (v:=v) hx hd hs ht
 AL (EU (nm ok.z)) (nm ok.x)
theorem anJ {B:Nat} (hB:B<4294967296) (v:Int):∃ X:Nat,X<4294967296∧bo (Builtin.bitAnd (Builtin.bitAnd (B:Int) (Builtin.bitNot (C6 "I"))) 4294967295) ((AG "I" 0 0 0 0 0 0 v:Nat):Int)=(X:Int)∧(X:Int)=(B:Int) - Builtin.bitAnd (B:Int) (C6 "I")+((AG "I" 0 0 0 0 0 0 v:Nat):Int)∧fld X 20 12=pcN v 0 12:=
 have k:=G4 (ok0 v 7) isI lwI hB rfl rfl (M:=C6 "I") (W:=((AG "I" 0 0 0 0 0 0 v:Nat):Int)) (by kernel_rfl) rfl
 ⟨_,k.1,k.2.1,k.2.2,CS (p:=isI) (ok0 v 7) lwI B 4 12 (.i 0) rfl rfl rfl⟩
theorem anK {B:Nat} (hB:B<4294967296) (v:Int):∃ X:Nat,X<4294967296∧bo (Builtin.bitAnd (Builtin.bitAnd (B:Int) (Builtin.bitNot (C6 "H"))) 4294967295) ((AG "H" 0 0 0 0 0 0 v:Nat):Int)=(X:Int)∧(X:Int)=(B:Int) - Builtin.bitAnd (B:Int) (C6 "H")+((AG "H" 0 0 0 0 0 0 v:Nat):Int)∧fld X 20 5=pcN v 0 5:=
 have k:=G4 (ok0 v 7) isI lwH hB rfl rfl (M:=C6 "H") (W:=((AG "H" 0 0 0 0 0 0 v:Nat):Int)) (by kernel_rfl) rfl
 ⟨_,k.1,k.2.1,k.2.2,CS (p:=isI) (ok0 v 7) lwH B 4 5 (.i 0) rfl rfl rfl⟩
theorem anL {B:Nat} (hB:B<4294967296) (v:Int):∃ X:Nat,X<4294967296∧bo (Builtin.bitAnd (Builtin.bitAnd (B:Int) (Builtin.bitNot (C6 "S"))) 4294967295) ((AG "S" 0 0 0 0 0 0 v:Nat):Int)=(X:Int)∧(X:Int)=(B:Int) - Builtin.bitAnd (B:Int) (C6 "S")+((AG "S" 0 0 0 0 0 0 v:Nat):Int)∧fld X 7 5=pcN v 0 5∧fld X 25 7=pcN v 5 7:=
 have k:=G4 (ok0 v 7) isI lwS hB rfl rfl (M:=C6 "S") (W:=((AG "S" 0 0 0 0 0 0 v:Nat):Int)) (by kernel_rfl) rfl
 ⟨_,k.1,k.2.1,k.2.2,CS (p:=isI) (ok0 v 7) lwS B 1 5 (.i 0) rfl rfl rfl,CS (p:=isI) (ok0 v 7) lwS B 5 7 (.i 5) rfl rfl rfl⟩
theorem anM {B:Nat} (hB:B<4294967296) (v:Int):∃ X:Nat,X<4294967296∧bo (Builtin.bitAnd (Builtin.bitAnd (B:Int) (Builtin.bitNot (C6 "B"))) 4294967295) ((AG "B" 0 0 0 0 0 0 v:Nat):Int)=(X:Int)∧(X:Int)=(B:Int) - Builtin.bitAnd (B:Int) (C6 "B")+((AG "B" 0 0 0 0 0 0 v:Nat):Int)∧fld X 7 1=pcN v 11 1∧fld X 8 4=pcN v 1 4∧fld X 25 6=pcN v 5 6∧fld X 31 1=pcN v 12 1:=
 have k:=G4 (ok0 v 7) isI lwB hB rfl rfl (M:=C6 "B") (W:=((AG "B" 0 0 0 0 0 0 v:Nat):Int)) (by kernel_rfl) rfl
 ⟨_,k.1,k.2.1,k.2.2,CS (p:=isI) (ok0 v 7) lwB B 1 1 (.i 11) rfl rfl rfl,CS (p:=isI) (ok0 v 7) lwB B 2 4 (.i 1) rfl rfl rfl,CS (p:=isI) (ok0 v 7) lwB B 6 6 (.i 5) rfl rfl rfl,CS (p:=isI) (ok0 v 7) lwB B 7 1 (.i 12) rfl rfl rfl⟩
theorem anN {B:Nat} (hB:B<4294967296) (v:Int):∃ X:Nat,X<4294967296∧bo (Builtin.bitAnd (Builtin.bitAnd (B:Int) (Builtin.bitNot (C6 "U"))) 4294967295) ((AG "U" 0 0 0 0 0 0 v:Nat):Int)=(X:Int)∧(X:Int)=(B:Int) - Builtin.bitAnd (B:Int) (C6 "U")+((AG "U" 0 0 0 0 0 0 v:Nat):Int)∧fld X 12 20=pcN v 0 20:=
 have k:=G4 (ok0 v 7) isI lwU hB rfl rfl (M:=C6 "U") (W:=((AG "U" 0 0 0 0 0 0 v:Nat):Int)) (by kernel_rfl) rfl
 ⟨_,k.1,k.2.1,k.2.2,CS (p:=isI) (ok0 v 7) lwU B 2 20 (.i 0) rfl rfl rfl⟩
theorem anO {B:Nat} (hB:B<4294967296) (v:Int):∃ X:Nat,X<4294967296∧bo (Builtin.bitAnd (Builtin.bitAnd (B:Int) (Builtin.bitNot (C6 "J"))) 4294967295) ((AG "J" 0 0 0 0 0 0 v:Nat):Int)=(X:Int)∧(X:Int)=(B:Int) - Builtin.bitAnd (B:Int) (C6 "J")+((AG "J" 0 0 0 0 0 0 v:Nat):Int)∧fld X 12 8=pcN v 12 8∧fld X 20 1=pcN v 11 1∧fld X 21 10=pcN v 1 10∧fld X 31 1=pcN v 20 1:=
 have k:=G4 (ok0 v 7) isI lwJ hB rfl rfl (M:=C6 "J") (W:=((AG "J" 0 0 0 0 0 0 v:Nat):Int)) (by kernel_rfl) rfl
 ⟨_,k.1,k.2.1,k.2.2,CS (p:=isI) (ok0 v 7) lwJ B 2 8 (.i 12) rfl rfl rfl,CS (p:=isI) (ok0 v 7) lwJ B 3 1 (.i 11) rfl rfl rfl,CS (p:=isI) (ok0 v 7) lwJ B 4 10 (.i 1) rfl rfl rfl,CS (p:=isI) (ok0 v 7) lwJ B 5 1 (.i 20) rfl rfl rfl⟩
theorem anP {B:Nat} (hB:B<4294967296) (v:Int):∃ X:Nat,X<4294967296∧bo (Builtin.bitAnd (Builtin.bitAnd (B:Int) (Builtin.bitNot (C6 "F"))) 4294967295) ((AG "F" 0 0 0 0 0 0 v:Nat):Int)=(X:Int)∧(X:Int)=(B:Int) - Builtin.bitAnd (B:Int) (C6 "F")+((AG "F" 0 0 0 0 0 0 v:Nat):Int)∧fld X 20 8=pcN v 0 8:=
 have k:=G4 (ok0 v 7) isI lwF hB rfl rfl (M:=C6 "F") (W:=((AG "F" 0 0 0 0 0 0 v:Nat):Int)) (by kernel_rfl) rfl
 ⟨_,k.1,k.2.1,k.2.2,CS (p:=isI) (ok0 v 7) lwF B 4 8 (.i 0) rfl rfl rfl⟩
end
end Mine
end
section
open PySem.SeqAt MineH
namespace Mine
section
variable {prog:Program} {w:World} {h:Heap}
def rowsX:List (Str×Str×Nat×Nat×Nat):=match HA with
 | .lst l=>l.map fun r=>match r with
  | .tup [.str n,.str f,.dS _ [.num x,.num y,.num z]]=>(n,f,x.toNat,y.toNat,z.toNat)
  | _=>("","",0,0,0)
 | _=>[]
structure RowOk (n f:Str) (x y z:Nat):Prop where
 form:f∈formsL
 mem:memS n DY=true
 look:D7 DY HR n=some (.tup [.str f,.num ((BO f x y z:Nat):Int)])
 row:(mkN f,BO f x y z,n,f)∈rowsF
 len:n.length≤1000
 xyz:AM f x y z
def xyzB (f:Str) (x y z:Nat):Bool:=decide (x<128)&&(match memS f ["U","J","E"] with | true=>decide (y=0) | false=>decide (y<8))&&(match f==("E" : Str) with | true=>decide (z<33554432) | false=>match memS f ["R","H"] with | true=>decide (z<128) | false=>decide (z=0))
def rowB (r:Str×Str×Nat×Nat×Nat):Bool:=match r with
 | (n,f,x,y,z)=>memS f formsL&&memS n DY&&(match D7 DY HR n with | some v=>eqAV v (.tup [.str f,.num ((BO f x y z:Nat):Int)]) | none=>false)
  && decide ((mkN f,BO f x y z,n,f)∈rowsF)&&Nat.ble n.length 1000&&xyzB f x y z
theorem atL:rowsX.all rowB=true:=by kernel_rfl
theorem NA {x:Str}:∀ {l:List Str},memS x l=true→x∈l
 | [],h=>(nomatch h)
 | k :: l,h=>by
  unfold memS at h
  split at h
  ·rename_i q; rw [eq_of_beq q]; simp
  ·simp [NA h]
theorem anQ {x y z:Nat}:∀ f∈formsL,xyzB f x y z=true→AM f x y z:=by
 refine by9 ?_ ?_ ?_ ?_ ?_ ?_ ?_ ?_ ?_<;>intro h<;>(simp only [xyzB,Bool.and_eq_true,decide_eq_true_eq] at h)
 ·exact ⟨h.1.1,of_decide_eq_true h.1.2,of_decide_eq_true h.2⟩
 ·exact ⟨h.1.1,of_decide_eq_true h.1.2,of_decide_eq_true h.2⟩
 ·exact ⟨h.1.1,of_decide_eq_true h.1.2,of_decide_eq_true h.2⟩
 ·exact ⟨h.1.1,of_decide_eq_true h.1.2,of_decide_eq_true h.2⟩
 ·exact ⟨h.1.1,of_decide_eq_true h.1.2,of_decide_eq_true h.2⟩
 ·exact ⟨h.1.1,of_decide_eq_true h.1.2,of_decide_eq_true h.2⟩
 ·exact ⟨h.1.1,of_decide_eq_true h.1.2,of_decide_eq_true h.2⟩
 ·exact ⟨h.1.1,of_decide_eq_true h.1.2,of_decide_eq_true h.2⟩
 ·exact ⟨h.1.1,of_decide_eq_true h.1.2,of_decide_eq_true h.2⟩
theorem YX {n f:Str} {x y z:Nat} (hr:(n,f,x,y,z)∈rowsX):RowOk n f x y z:=by
 have h:=List.all_eq_true.mp atL _ hr
 simp only [rowB,Bool.and_eq_true] at h
 (refine ob02 h ?_; clear h; intro ζ1 h6; refine ob02 ζ1 ?_; clear ζ1; intro ζ2 h5; refine ob02 ζ2 ?_; clear ζ2; intro ζ3 h4; refine ob02 ζ3 ?_; clear ζ3; intro ζ4 h3; refine ob02 ζ4 ?_; clear ζ4; intro h1 h2)
 have hf:=NA h1
 refine ⟨hf,h2,?_,of_decide_eq_true h4,Nat.le_of_ble_eq_true h5,anQ f hf h6⟩
 split at h3
 ·rename_i v q
  rw [q,WR h3]
 ·cases h3
theorem DZ {L H p v:Int} (hp:0≤p):((decide (L≤v)&&decide (v<H))&&(v.fmod p==0))=true↔L≤v∧v<H∧v % p=0:=by
 rw [Int.fmod_eq_emod_of_nonneg _ hp,Bool.and_eq_true,Bool.and_eq_true,decide_eq_true_eq,decide_eq_true_eq,beq_iff_eq,and_assoc]
theorem anR {v:Int} (h1 : -2048≤v) (h2:v<2048) (h3:v % 1=0):hrF "I" v=true:=(DZ (L:=-2048) (H:=2048) (p:=1) (by decide)).mpr ⟨h1,h2,h3⟩
theorem NB {v:Int} (h:hrF "I" v=true) : -2048≤v∧v<2048∧v % 1=0:=(DZ (L:=-2048) (H:=2048) (p:=1) (by decide)).mp h
theorem anS {v:Int} (h1:0≤v) (h2:v<32) (h3:v % 1=0):hrF "H" v=true:=(DZ (L:=0) (H:=32) (p:=1) (by decide)).mpr ⟨h1,h2,h3⟩
theorem NC {v:Int} (h:hrF "H" v=true):0≤v∧v<32∧v % 1=0:=(DZ (L:=0) (H:=32) (p:=1) (by decide)).mp h
theorem anT {v:Int} (h1 : -2048≤v) (h2:v<2048) (h3:v % 1=0):hrF "S" v=true:=(DZ (L:=-2048) (H:=2048) (p:=1) (by decide)).mpr ⟨h1,h2,h3⟩
theorem ND {v:Int} (h:hrF "S" v=true) : -2048≤v∧v<2048∧v % 1=0:=(DZ (L:=-2048) (H:=2048) (p:=1) (by decide)).mp h
theorem anU {v:Int} (h1 : -4096≤v) (h2:v<4096) (h3:v % 2=0):hrF "B" v=true:=(DZ (L:=-4096) (H:=4096) (p:=2) (by decide)).mpr ⟨h1,h2,h3⟩
theorem NE {v:Int} (h:hrF "B" v=true) : -4096≤v∧v<4096∧v % 2=0:=(DZ (L:=-4096) (H:=4096) (p:=2) (by decide)).mp h
theorem anV {v:Int} (h1:0≤v) (h2:v<1048576) (h3:v % 1=0):hrF "U" v=true:=(DZ (L:=0) (H:=1048576) (p:=1) (by decide)).mpr ⟨h1,h2,h3⟩
theorem NF {v:Int} (h:hrF "U" v=true):0≤v∧v<1048576∧v % 1=0:=(DZ (L:=0) (H:=1048576) (p:=1) (by decide)).mp h
theorem anW {v:Int} (h1 : -1048576≤v) (h2:v<1048576) (h3:v % 2=0):hrF "J" v=true:=(DZ (L:=-1048576) (H:=1048576) (p:=2) (by decide)).mpr ⟨h1,h2,h3⟩
theorem NG {v:Int} (h:hrF "J" v=true) : -1048576≤v∧v<1048576∧v % 2=0:=(DZ (L:=-1048576) (H:=1048576) (p:=2) (by decide)).mp h
theorem anX {v:Int} (h1:0≤v) (h2:v<256) (h3:v % 1=0):hrF "F" v=true:=(DZ (L:=0) (H:=256) (p:=1) (by decide)).mpr ⟨h1,h2,h3⟩
theorem NH {v:Int} (h:hrF "F" v=true):0≤v∧v<256∧v % 1=0:=(DZ (L:=0) (H:=256) (p:=1) (by decide)).mp h
theorem pl_R:plF "R" = ([("rd",7),("rs1",15),("rs2",20)]:List (Str×Int)):=by kernel_rfl
theorem ks_R:AZ "R" = (["rd","rs1","rs2"]:List Str):=by kernel_rfl
theorem ahP {n:Str} {x y z:Nat} (Rw:RowOk n "R" x y z) {g:Str→Int} {d s t:Nat} (hd:g "rd" = (d:Int)) (hs:g "rs1" = (s:Int)) (ht:g "rs2" = (t:Int)) (ld:d<32) (ls:s<32) (lt:t<32):HX (encX [.str n,AI "R" g]) (fun av=>∃ b,BF av=some (((AG "R" x y z d s t (g "imm"):Nat):Int),b)) False:=by
 refine AT Rw.mem Rw.look ?_
 rw [alU]
 refine AU (fun p hp=>?_) ?_
 ·have hp:p∈plF "R" := hp
  rw [pl_R] at hp
  simp only [List.mem_cons,List.not_mem_nil,or_false] at hp
  rcases hp with q | q | q<;>rw [q]
  ·show 0≤g "rd" ∧ g "rd" < 32
   rw [hd]; omega
  ·show 0≤g "rs1" ∧ g "rs1" < 32
   rw [hs]; omega
  ·show 0≤g "rs2" ∧ g "rs2" < 32
   rw [ht]; omega
 refine AK ⟨true,?_⟩
 show some (bo (bo (bo (((BO "R" x y z:Nat):Int)) (g "rd" * 2 ^ (7:Int).toNat)) (g "rs1" * 2 ^ (15:Int).toNat)) (g "rs2" * 2 ^ (20:Int).toNat),true)=_
 rw [hd,hs,ht,amQ (v:=g "imm") Rw.xyz ld ls lt]
theorem ahQ {x y z:Nat} {g:Str→Int} {d s t:Nat} (hx:AM "R" x y z) (hd:g "rd" = (d:Int)) (hs:g "rs1" = (s:Int)) (ht:g "rs2" = (t:Int)) (ld:d<32) (ls:s<32) (lt:t<32):∀ k∈AZ "R",A3 "R" ((AG "R" x y z d s t (g "imm"):Nat):Int) k=g k:=by
 intro k hk
 rw [ks_R] at hk
 simp only [List.mem_cons,List.not_mem_nil,or_false] at hk
 rcases hk with q | q | q<;>rw [q]
 ·rw [hd]; exact YS hx ld ls lt
 ·rw [hs]; exact UC hx ld ls lt
 ·rw [ht]; exact UD hx ld ls lt
theorem LO:∀ p∈plF "R",p.1.length≤1000:=by
 rw [pl_R]; decide +kernel
theorem NI {n:Str} {x y z:Nat} (Rw:RowOk n "R" x y z) (g:Str→Int) (hw:¬ (0≤g "rd" ∧ g "rd" < 32)):HX (encX [.str n,A5 "R" g "rd"]) (fun _=>False) True:=by
 refine AT Rw.mem Rw.look ?_
 rw [XZ]
 exact BD LO ⟨("rd",7),by rw [pl_R]; simp,hw⟩
theorem NJ {n:Str} {x y z:Nat} (Rw:RowOk n "R" x y z) (g:Str→Int):HX (encX [.str n,A4 "R" g "rd"]) (fun _=>False) True:=by
 refine AT Rw.mem Rw.look ?_
 rw [X1]
 exact BE LO ⟨("rd",7),by rw [pl_R]; simp,rfl⟩
theorem KB {n:Str} {x y z:Nat} (Rw:RowOk n "R" x y z) (g:Str→Int) (hw:¬ (0≤g "rs1" ∧ g "rs1" < 32)):HX (encX [.str n,A5 "R" g "rs1"]) (fun _=>False) True:=by
 refine AT Rw.mem Rw.look ?_
 rw [TM]
 exact BD LO ⟨("rs1",15),by rw [pl_R]; simp,hw⟩
theorem KC {n:Str} {x y z:Nat} (Rw:RowOk n "R" x y z) (g:Str→Int):HX (encX [.str n,A4 "R" g "rs1"]) (fun _=>False) True:=by
 refine AT Rw.mem Rw.look ?_
 rw [TN]
 exact BE LO ⟨("rs1",15),by rw [pl_R]; simp,rfl⟩
theorem KD {n:Str} {x y z:Nat} (Rw:RowOk n "R" x y z) (g:Str→Int) (hw:¬ (0≤g "rs2" ∧ g "rs2" < 32)):HX (encX [.str n,A5 "R" g "rs2"]) (fun _=>False) True:=by
 refine AT Rw.mem Rw.look ?_
 rw [TO]
 exact BD LO ⟨("rs2",20),by rw [pl_R]; simp,hw⟩
theorem KE {n:Str} {x y z:Nat} (Rw:RowOk n "R" x y z) (g:Str→Int):HX (encX [.str n,A4 "R" g "rs2"]) (fun _=>False) True:=by
 refine AT Rw.mem Rw.look ?_
 rw [TQ]
 exact BE LO ⟨("rs2",20),by rw [pl_R]; simp,rfl⟩
theorem pl_I:plF "I" = ([("rd",7),("rs1",15)]:List (Str×Int)):=by kernel_rfl
theorem ks_I:AZ "I" = (["rd","rs1","imm"]:List Str):=by kernel_rfl
theorem anY {x y z d s t:Nat} {v:Int} (hx:AM "I" x y z) (hd:d<32) (hs:s<32) (ht:t<32):fld (AG "I" x y z d s t v) 20 12=pcN v 0 12:=by
 have hx:x<128∧y<8∧z=0:=hx
 have l4:=CT v 0 12
 rw [show AG "I" x y z d s t v=pk [(7,x),(5,d),(3,y),(5,s),(12,pcN v 0 12)] from rfl]
 exact (AH (k:=13) (by omega)).trans ((AH (k:=8) (by omega)).trans ((AH (k:=5) (by omega)).trans ((AH (k:=0) (by omega)).trans (BW (by omega)))))
theorem anZ {x y z d s t:Nat} {v:Int} (hx:AM "I" x y z) (hd:d<32) (hs:s<32) (ht:t<32) (h1 : -2048≤v) (h2:v<2048) (h3:v % 1=0):immV "I" ((AG "I" x y z d s t v:Nat):Int)=v:=by
 have q:=anY (v:=v) hx hd hs ht
 exact adW (adP (v:=v) hx hd hs ht).2 h1 h2 h3 q
theorem ahR {n:Str} {x y z:Nat} (Rw:RowOk n "I" x y z) {g:Str→Int} {d s t:Nat} (hd:g "rd" = (d:Int)) (hs:g "rs1" = (s:Int)) (ht:g "rs2" = (t:Int)) (ld:d<32) (ls:s<32) (lt:t<32) (h1 : -2048≤g "imm") (h2:g "imm" < 2048) (h3:g "imm" % 1=0):HX (encX [.str n,AI "I" g]) (fun av=>∃ b,BF av=some (((AG "I" x y z d s t (g "imm"):Nat):Int),b)) False:=by
 refine AT Rw.mem Rw.look ?_
 rw [acW]
 refine AU (fun p hp=>?_) ?_
 ·have hp:p∈plF "I" := hp
  rw [pl_I] at hp
  simp only [List.mem_cons,List.not_mem_nil,or_false] at hp
  rcases hp with q | q<;>rw [q]
  ·show 0≤g "rd" ∧ g "rd" < 32
   rw [hd]; omega
  ·show 0≤g "rs1" ∧ g "rs1" < 32
   rw [hs]; omega
 have Fi:=CR (f := "I") (by simp [AB]) Rw.look (g "imm")
 have hr:hrF "I" (g "imm")=true:=anR h1 h2 h3
 refine AD (p:=okB (fitR n (.sym (g "imm")))) Fi.1 (BN (fun e=>?_) fun _=>CZ (C5 (YK h1 h2) fun av e=>?_))
 ·have e:(!valB (EK [.str n,.sym (g "imm")]))=true:=e
  rw [Fi.2,hr] at e; cases e
 ·rw [e]
  refine AK ⟨true,?_⟩
  show some (bo (bo (bo (((BO "I" x y z:Nat):Int)) (g "rd" * 2 ^ (7:Int).toNat)) (g "rs1" * 2 ^ (15:Int).toNat)) ((AG "I" 0 0 0 0 0 0 (g "imm"):Nat):Int),true)=_
  rw [hd,hs,amR Rw.xyz ld ls lt]
theorem ahS {x y z:Nat} {g:Str→Int} {d s t:Nat} (hx:AM "I" x y z) (hd:g "rd" = (d:Int)) (hs:g "rs1" = (s:Int)) (ht:g "rs2" = (t:Int)) (ld:d<32) (ls:s<32) (lt:t<32) (h1 : -2048≤g "imm") (h2:g "imm" < 2048) (h3:g "imm" % 1=0):∀ k∈AZ "I",A3 "I" ((AG "I" x y z d s t (g "imm"):Nat):Int) k=g k:=by
 intro k hk
 rw [ks_I] at hk
 simp only [List.mem_cons,List.not_mem_nil,or_false] at hk
 rcases hk with q | q | q<;>rw [q]
 ·rw [hd]; exact YT hx ld ls lt
 ·rw [hs]; exact UE hx ld ls lt
 ·exact anZ hx ld ls lt h1 h2 h3
theorem R7:∀ p∈plF "I",p.1.length≤1000:=by
 rw [pl_I]; decide +kernel
theorem NK {n:Str} {x y z:Nat} (Rw:RowOk n "I" x y z) (g:Str→Int) (hw:¬ (0≤g "rd" ∧ g "rd" < 32)):HX (encX [.str n,A5 "I" g "rd"]) (fun _=>False) True:=by
 refine AT Rw.mem Rw.look ?_
 rw [X2]
 exact BD R7 ⟨("rd",7),by rw [pl_I]; simp,hw⟩
theorem NL {n:Str} {x y z:Nat} (Rw:RowOk n "I" x y z) (g:Str→Int):HX (encX [.str n,A4 "I" g "rd"]) (fun _=>False) True:=by
 refine AT Rw.mem Rw.look ?_
 rw [X3]
 exact BE R7 ⟨("rd",7),by rw [pl_I]; simp,rfl⟩
theorem KF {n:Str} {x y z:Nat} (Rw:RowOk n "I" x y z) (g:Str→Int) (hw:¬ (0≤g "rs1" ∧ g "rs1" < 32)):HX (encX [.str n,A5 "I" g "rs1"]) (fun _=>False) True:=by
 refine AT Rw.mem Rw.look ?_
 rw [TR]
 exact BD R7 ⟨("rs1",15),by rw [pl_I]; simp,hw⟩
theorem KG {n:Str} {x y z:Nat} (Rw:RowOk n "I" x y z) (g:Str→Int):HX (encX [.str n,A4 "I" g "rs1"]) (fun _=>False) True:=by
 refine AT Rw.mem Rw.look ?_
 rw [TS]
 exact BE R7 ⟨("rs1",15),by rw [pl_I]; simp,rfl⟩
theorem KH {n:Str} {x y z:Nat} (Rw:RowOk n "I" x y z) (g:Str→Int) (hg:∀ p∈plF "I",0≤g p.1∧g p.1<32):HX (encX [.str n,A4 "I" g "imm"]) (fun _=>False) True:=by
 refine AT Rw.mem Rw.look ?_
 rw [TT]
 exact AU hg (C0 Rw.len trivial)
theorem UK {n:Str} {x y z:Nat} (Rw:RowOk n "I" x y z) (g:Str→Int) (hg:∀ p∈plF "I",0≤g p.1∧g p.1<32) (hr:hrF "I" (g "imm")=false):HX (encX [.str n,AI "I" g]) (fun _=>False) True:=by
 refine AT Rw.mem Rw.look ?_
 rw [acW]
 have Fi:=CR (f := "I") (by simp [AB]) Rw.look (g "imm")
 refine AU hg (AD (p:=okB (fitR n (.sym (g "imm")))) Fi.1 (BN (fun _=>C0 Rw.len trivial) fun e=>?_))
 have e:(!valB (EK [.str n,.sym (g "imm")]))=false:=e
 rw [Fi.2,hr] at e; cases e
theorem pl_H:plF "H" = ([("rd",7),("rs1",15)]:List (Str×Int)):=by kernel_rfl
theorem ks_H:AZ "H" = (["rd","rs1","imm"]:List Str):=by kernel_rfl
theorem aoA {x y z d s t:Nat} {v:Int} (hx:AM "H" x y z) (hd:d<32) (hs:s<32) (ht:t<32):fld (AG "H" x y z d s t v) 20 5=pcN v 0 5:=by
 have hx:x<128∧y<8∧z<128:=hx
 have l4:=CT v 0 5
 rw [show AG "H" x y z d s t v=pk [(7,x),(5,d),(3,y),(5,s),(5,pcN v 0 5),(7,z)] from rfl]
 exact (AH (k:=13) (by omega)).trans ((AH (k:=8) (by omega)).trans ((AH (k:=5) (by omega)).trans ((AH (k:=0) (by omega)).trans (BW (by omega)))))
theorem aoB {x y z d s t:Nat} {v:Int} (hx:AM "H" x y z) (hd:d<32) (hs:s<32) (ht:t<32) (h1:0≤v) (h2:v<32) (h3:v % 1=0):immV "H" ((AG "H" x y z d s t v:Nat):Int)=v:=by
 have q:=aoA (v:=v) hx hd hs ht
 exact adX (adQ (v:=v) hx hd hs ht).2 h1 h2 h3 q
theorem ahT {n:Str} {x y z:Nat} (Rw:RowOk n "H" x y z) {g:Str→Int} {d s t:Nat} (hd:g "rd" = (d:Int)) (hs:g "rs1" = (s:Int)) (ht:g "rs2" = (t:Int)) (ld:d<32) (ls:s<32) (lt:t<32) (h1:0≤g "imm") (h2:g "imm" < 32) (h3:g "imm" % 1=0):HX (encX [.str n,AI "H" g]) (fun av=>∃ b,BF av=some (((AG "H" x y z d s t (g "imm"):Nat):Int),b)) False:=by
 refine AT Rw.mem Rw.look ?_
 rw [acX]
 refine AU (fun p hp=>?_) ?_
 ·have hp:p∈plF "H" := hp
  rw [pl_H] at hp
  simp only [List.mem_cons,List.not_mem_nil,or_false] at hp
  rcases hp with q | q<;>rw [q]
  ·show 0≤g "rd" ∧ g "rd" < 32
   rw [hd]; omega
  ·show 0≤g "rs1" ∧ g "rs1" < 32
   rw [hs]; omega
 have Fi:=CR (f := "H") (by simp [AB]) Rw.look (g "imm")
 have hr:hrF "H" (g "imm")=true:=anS h1 h2 h3
 refine AD (p:=okB (fitR n (.sym (g "imm")))) Fi.1 (BN (fun e=>?_) fun _=>CZ (C5 (YL h1 h2) fun av e=>?_))
 ·have e:(!valB (EK [.str n,.sym (g "imm")]))=true:=e
  rw [Fi.2,hr] at e; cases e
 ·rw [e]
  refine AK ⟨true,?_⟩
  show some (bo (bo (bo (((BO "H" x y z:Nat):Int)) (g "rd" * 2 ^ (7:Int).toNat)) (g "rs1" * 2 ^ (15:Int).toNat)) ((AG "H" 0 0 0 0 0 0 (g "imm"):Nat):Int),true)=_
  rw [hd,hs,amS Rw.xyz ld ls lt]
theorem ahU {x y z:Nat} {g:Str→Int} {d s t:Nat} (hx:AM "H" x y z) (hd:g "rd" = (d:Int)) (hs:g "rs1" = (s:Int)) (ht:g "rs2" = (t:Int)) (ld:d<32) (ls:s<32) (lt:t<32) (h1:0≤g "imm") (h2:g "imm" < 32) (h3:g "imm" % 1=0):∀ k∈AZ "H",A3 "H" ((AG "H" x y z d s t (g "imm"):Nat):Int) k=g k:=by
 intro k hk
 rw [ks_H] at hk
 simp only [List.mem_cons,List.not_mem_nil,or_false] at hk
 rcases hk with q | q | q<;>rw [q]
 ·rw [hd]; exact YU hx ld ls lt
 ·rw [hs]; exact UF hx ld ls lt
 ·exact aoB hx ld ls lt h1 h2 h3
theorem R8:∀ p∈plF "H",p.1.length≤1000:=by
 rw [pl_H]; decide +kernel
theorem NM {n:Str} {x y z:Nat} (Rw:RowOk n "H" x y z) (g:Str→Int) (hw:¬ (0≤g "rd" ∧ g "rd" < 32)):HX (encX [.str n,A5 "H" g "rd"]) (fun _=>False) True:=by
 refine AT Rw.mem Rw.look ?_
 rw [X4]
 exact BD R8 ⟨("rd",7),by rw [pl_H]; simp,hw⟩
theorem NN {n:Str} {x y z:Nat} (Rw:RowOk n "H" x y z) (g:Str→Int):HX (encX [.str n,A4 "H" g "rd"]) (fun _=>False) True:=by
 refine AT Rw.mem Rw.look ?_
 rw [X5]
 exact BE R8 ⟨("rd",7),by rw [pl_H]; simp,rfl⟩
theorem KI {n:Str} {x y z:Nat} (Rw:RowOk n "H" x y z) (g:Str→Int) (hw:¬ (0≤g "rs1" ∧ g "rs1" < 32)):HX (encX [.str n,A5 "H" g "rs1"]) (fun _=>False) True:=by
 refine AT Rw.mem Rw.look ?_
 rw [TU]
 exact BD R8 ⟨("rs1",15),by rw [pl_H]; simp,hw⟩
theorem KJ {n:Str} {x y z:Nat} (Rw:RowOk n "H" x y z) (g:Str→Int):HX (encX [.str n,A4 "H" g "rs1"]) (fun _=>False) True:=by
 refine AT Rw.mem Rw.look ?_
 rw [TV]
 exact BE R8 ⟨("rs1",15),by rw [pl_H]; simp,rfl⟩
theorem KK {n:Str} {x y z:Nat} (Rw:RowOk n "H" x y z) (g:Str→Int) (hg:∀ p∈plF "H",0≤g p.1∧g p.1<32):HX (encX [.str n,A4 "H" g "imm"]) (fun _=>False) True:=by
 refine AT Rw.mem Rw.look ?_
 rw [TX]
 exact AU hg (C0 Rw.len trivial)
theorem UL {n:Str} {x y z:Nat} (Rw:RowOk n "H" x y z) (g:Str→Int) (hg:∀ p∈plF "H",0≤g p.1∧g p.1<32) (hr:hrF "H" (g "imm")=false):HX (encX [.str n,AI "H" g]) (fun _=>False) True:=by
 refine AT Rw.mem Rw.look ?_
 rw [acX]
 have Fi:=CR (f := "H") (by simp [AB]) Rw.look (g "imm")
 refine AU hg (AD (p:=okB (fitR n (.sym (g "imm")))) Fi.1 (BN (fun _=>C0 Rw.len trivial) fun e=>?_))
 have e:(!valB (EK [.str n,.sym (g "imm")]))=false:=e
 rw [Fi.2,hr] at e; cases e
theorem pl_S:plF "S" = ([("rs1",15),("rs2",20)]:List (Str×Int)):=by kernel_rfl
theorem ks_S:AZ "S" = (["rs1","rs2","imm"]:List Str):=by kernel_rfl
theorem aoC {x y z d s t:Nat} {v:Int} (hx:AM "S" x y z) (hd:d<32) (hs:s<32) (ht:t<32):fld (AG "S" x y z d s t v) 7 5=pcN v 0 5∧fld (AG "S" x y z d s t v) 25 7=pcN v 5 7:=by
 have hx:x<128∧y<8∧z=0:=hx
 have l1:=CT v 0 5
 have l5:=CT v 5 7
 rw [show AG "S" x y z d s t v=pk [(7,x),(5,pcN v 0 5),(3,y),(5,s),(5,t),(7,pcN v 5 7)] from rfl]
 exact ⟨(AH (k:=0) (by omega)).trans (BW (by omega)),(AH (k:=18) (by omega)).trans ((AH (k:=13) (by omega)).trans ((AH (k:=10) (by omega)).trans ((AH (k:=5) (by omega)).trans ((AH (k:=0) (by omega)).trans (BW (by omega))))))⟩
theorem aoD {x y z d s t:Nat} {v:Int} (hx:AM "S" x y z) (hd:d<32) (hs:s<32) (ht:t<32) (h1 : -2048≤v) (h2:v<2048) (h3:v % 1=0):immV "S" ((AG "S" x y z d s t v:Nat):Int)=v:=by
 have q:=aoC (v:=v) hx hd hs ht
 exact adY (adR (v:=v) hx hd hs ht).2 h1 h2 h3 q.1 q.2
theorem ahV {n:Str} {x y z:Nat} (Rw:RowOk n "S" x y z) {g:Str→Int} {d s t:Nat} (hd:g "rd" = (d:Int)) (hs:g "rs1" = (s:Int)) (ht:g "rs2" = (t:Int)) (ld:d<32) (ls:s<32) (lt:t<32) (h1 : -2048≤g "imm") (h2:g "imm" < 2048) (h3:g "imm" % 1=0):HX (encX [.str n,AI "S" g]) (fun av=>∃ b,BF av=some (((AG "S" x y z d s t (g "imm"):Nat):Int),b)) False:=by
 refine AT Rw.mem Rw.look ?_
 rw [acY]
 refine AU (fun p hp=>?_) ?_
 ·have hp:p∈plF "S" := hp
  rw [pl_S] at hp
  simp only [List.mem_cons,List.not_mem_nil,or_false] at hp
  rcases hp with q | q<;>rw [q]
  ·show 0≤g "rs1" ∧ g "rs1" < 32
   rw [hs]; omega
  ·show 0≤g "rs2" ∧ g "rs2" < 32
   rw [ht]; omega
 have Fi:=CR (f := "S") (by simp [AB]) Rw.look (g "imm")
 have hr:hrF "S" (g "imm")=true:=anT h1 h2 h3
 refine AD (p:=okB (fitR n (.sym (g "imm")))) Fi.1 (BN (fun e=>?_) fun _=>CZ (C5 (YM h1 h2) fun av e=>?_))
 ·have e:(!valB (EK [.str n,.sym (g "imm")]))=true:=e
  rw [Fi.2,hr] at e; cases e
 ·rw [e]
  refine AK ⟨true,?_⟩
  show some (bo (bo (bo (((BO "S" x y z:Nat):Int)) (g "rs1" * 2 ^ (15:Int).toNat)) (g "rs2" * 2 ^ (20:Int).toNat)) ((AG "S" 0 0 0 0 0 0 (g "imm"):Nat):Int),true)=_
  rw [hs,ht,amT Rw.xyz ld ls lt]
theorem ahW {x y z:Nat} {g:Str→Int} {d s t:Nat} (hx:AM "S" x y z) (hd:g "rd" = (d:Int)) (hs:g "rs1" = (s:Int)) (ht:g "rs2" = (t:Int)) (ld:d<32) (ls:s<32) (lt:t<32) (h1 : -2048≤g "imm") (h2:g "imm" < 2048) (h3:g "imm" % 1=0):∀ k∈AZ "S",A3 "S" ((AG "S" x y z d s t (g "imm"):Nat):Int) k=g k:=by
 intro k hk
 rw [ks_S] at hk
 simp only [List.mem_cons,List.not_mem_nil,or_false] at hk
 rcases hk with q | q | q<;>rw [q]
 ·rw [hs]; exact UG hx ld ls lt
 ·rw [ht]; exact UH hx ld ls lt
 ·exact aoD hx ld ls lt h1 h2 h3
theorem R9:∀ p∈plF "S",p.1.length≤1000:=by
 rw [pl_S]; decide +kernel
theorem KL {n:Str} {x y z:Nat} (Rw:RowOk n "S" x y z) (g:Str→Int) (hw:¬ (0≤g "rs1" ∧ g "rs1" < 32)):HX (encX [.str n,A5 "S" g "rs1"]) (fun _=>False) True:=by
 refine AT Rw.mem Rw.look ?_
 rw [TY]
 exact BD R9 ⟨("rs1",15),by rw [pl_S]; simp,hw⟩
theorem KM {n:Str} {x y z:Nat} (Rw:RowOk n "S" x y z) (g:Str→Int):HX (encX [.str n,A4 "S" g "rs1"]) (fun _=>False) True:=by
 refine AT Rw.mem Rw.look ?_
 rw [TZ]
 exact BE R9 ⟨("rs1",15),by rw [pl_S]; simp,rfl⟩
theorem KN {n:Str} {x y z:Nat} (Rw:RowOk n "S" x y z) (g:Str→Int) (hw:¬ (0≤g "rs2" ∧ g "rs2" < 32)):HX (encX [.str n,A5 "S" g "rs2"]) (fun _=>False) True:=by
 refine AT Rw.mem Rw.look ?_
 rw [T0]
 exact BD R9 ⟨("rs2",20),by rw [pl_S]; simp,hw⟩
theorem KO {n:Str} {x y z:Nat} (Rw:RowOk n "S" x y z) (g:Str→Int):HX (encX [.str n,A4 "S" g "rs2"]) (fun _=>False) True:=by
 refine AT Rw.mem Rw.look ?_
 rw [T1]
 exact BE R9 ⟨("rs2",20),by rw [pl_S]; simp,rfl⟩
theorem KP {n:Str} {x y z:Nat} (Rw:RowOk n "S" x y z) (g:Str→Int) (hg:∀ p∈plF "S",0≤g p.1∧g p.1<32):HX (encX [.str n,A4 "S" g "imm"]) (fun _=>False) True:=by
 refine AT Rw.mem Rw.look ?_
 rw [T2]
 exact AU hg (C0 Rw.len trivial)
theorem UM {n:Str} {x y z:Nat} (Rw:RowOk n "S" x y z) (g:Str→Int) (hg:∀ p∈plF "S",0≤g p.1∧g p.1<32) (hr:hrF "S" (g "imm")=false):HX (encX [.str n,AI "S" g]) (fun _=>False) True:=by
 refine AT Rw.mem Rw.look ?_
 rw [acY]
 have Fi:=CR (f := "S") (by simp [AB]) Rw.look (g "imm")
 refine AU hg (AD (p:=okB (fitR n (.sym (g "imm")))) Fi.1 (BN (fun _=>C0 Rw.len trivial) fun e=>?_))
 have e:(!valB (EK [.str n,.sym (g "imm")]))=false:=e
 rw [Fi.2,hr] at e; cases e
theorem pl_B:plF "B" = ([("rs1",15),("rs2",20)]:List (Str×Int)):=by kernel_rfl
theorem ks_B:AZ "B" = (["rs1","rs2","imm"]:List Str):=by kernel_rfl
theorem aoE {x y z d s t:Nat} {v:Int} (hx:AM "B" x y z) (hd:d<32) (hs:s<32) (ht:t<32):fld (AG "B" x y z d s t v) 7 1=pcN v 11 1∧fld (AG "B" x y z d s t v) 8 4=pcN v 1 4∧fld (AG "B" x y z d s t v) 25 6=pcN v 5 6∧fld (AG "B" x y z d s t v) 31 1=pcN v 12 1:=by
 have hx:x<128∧y<8∧z=0:=hx
 have l1:=CT v 11 1
 have l2:=CT v 1 4
 have l6:=CT v 5 6
 have l7:=CT v 12 1
 rw [show AG "B" x y z d s t v=pk [(7,x),(1,pcN v 11 1),(4,pcN v 1 4),(3,y),(5,s),(5,t),(6,pcN v 5 6),(1,pcN v 12 1)] from rfl]
 exact ⟨(AH (k:=0) (by omega)).trans (BW (by omega)),(AH (k:=1) (by omega)).trans ((AH (k:=0) (by omega)).trans (BW (by omega))),(AH (k:=18) (by omega)).trans ((AH (k:=17) (by omega)).trans ((AH (k:=13) (by omega)).trans ((AH (k:=10) (by omega)).trans ((AH (k:=5) (by omega)).trans ((AH (k:=0) (by omega)).trans (BW (by omega))))))),(AH (k:=24) (by omega)).trans ((AH (k:=23) (by omega)).trans ((AH (k:=19) (by omega)).trans ((AH (k:=16) (by omega)).trans ((AH (k:=11) (by omega)).trans ((AH (k:=6) (by omega)).trans ((AH (k:=0) (by omega)).trans (BW (by omega))))))))⟩
theorem aoF {x y z d s t:Nat} {v:Int} (hx:AM "B" x y z) (hd:d<32) (hs:s<32) (ht:t<32) (h1 : -4096≤v) (h2:v<4096) (h3:v % 2=0):immV "B" ((AG "B" x y z d s t v:Nat):Int)=v:=by
 have q:=aoE (v:=v) hx hd hs ht
 exact adZ (adS (v:=v) hx hd hs ht).2 h1 h2 h3 q.1 q.2.1 q.2.2.1 q.2.2.2
theorem ahX {n:Str} {x y z:Nat} (Rw:RowOk n "B" x y z) {g:Str→Int} {d s t:Nat} (hd:g "rd" = (d:Int)) (hs:g "rs1" = (s:Int)) (ht:g "rs2" = (t:Int)) (ld:d<32) (ls:s<32) (lt:t<32) (h1 : -4096≤g "imm") (h2:g "imm" < 4096) (h3:g "imm" % 2=0):HX (encX [.str n,AI "B" g]) (fun av=>∃ b,BF av=some (((AG "B" x y z d s t (g "imm"):Nat):Int),b)) False:=by
 refine AT Rw.mem Rw.look ?_
 rw [acZ]
 refine AU (fun p hp=>?_) ?_
 ·have hp:p∈plF "B" := hp
  rw [pl_B] at hp
  simp only [List.mem_cons,List.not_mem_nil,or_false] at hp
  rcases hp with q | q<;>rw [q]
  ·show 0≤g "rs1" ∧ g "rs1" < 32
   rw [hs]; omega
  ·show 0≤g "rs2" ∧ g "rs2" < 32
   rw [ht]; omega
 have Fi:=CR (f := "B") (by simp [AB]) Rw.look (g "imm")
 have hr:hrF "B" (g "imm")=true:=anU h1 h2 h3
 refine AD (p:=okB (fitR n (.sym (g "imm")))) Fi.1 (BN (fun e=>?_) fun _=>CZ (C5 (YN h1 h2) fun av e=>?_))
 ·have e:(!valB (EK [.str n,.sym (g "imm")]))=true:=e
  rw [Fi.2,hr] at e; cases e
 ·rw [e]
  refine AK ⟨true,?_⟩
  show some (bo (bo (bo (((BO "B" x y z:Nat):Int)) (g "rs1" * 2 ^ (15:Int).toNat)) (g "rs2" * 2 ^ (20:Int).toNat)) ((AG "B" 0 0 0 0 0 0 (g "imm"):Nat):Int),true)=_
  rw [hs,ht,amU Rw.xyz ld ls lt]
theorem ahY {x y z:Nat} {g:Str→Int} {d s t:Nat} (hx:AM "B" x y z) (hd:g "rd" = (d:Int)) (hs:g "rs1" = (s:Int)) (ht:g "rs2" = (t:Int)) (ld:d<32) (ls:s<32) (lt:t<32) (h1 : -4096≤g "imm") (h2:g "imm" < 4096) (h3:g "imm" % 2=0):∀ k∈AZ "B",A3 "B" ((AG "B" x y z d s t (g "imm"):Nat):Int) k=g k:=by
 intro k hk
 rw [ks_B] at hk
 simp only [List.mem_cons,List.not_mem_nil,or_false] at hk
 rcases hk with q | q | q<;>rw [q]
 ·rw [hs]; exact UI hx ld ls lt
 ·rw [ht]; exact UJ hx ld ls lt
 ·exact aoF hx ld ls lt h1 h2 h3
theorem SA:∀ p∈plF "B",p.1.length≤1000:=by
 rw [pl_B]; decide +kernel
theorem KQ {n:Str} {x y z:Nat} (Rw:RowOk n "B" x y z) (g:Str→Int) (hw:¬ (0≤g "rs1" ∧ g "rs1" < 32)):HX (encX [.str n,A5 "B" g "rs1"]) (fun _=>False) True:=by
 refine AT Rw.mem Rw.look ?_
 rw [T3]
 exact BD SA ⟨("rs1",15),by rw [pl_B]; simp,hw⟩
theorem KR {n:Str} {x y z:Nat} (Rw:RowOk n "B" x y z) (g:Str→Int):HX (encX [.str n,A4 "B" g "rs1"]) (fun _=>False) True:=by
 refine AT Rw.mem Rw.look ?_
 rw [T5]
 exact BE SA ⟨("rs1",15),by rw [pl_B]; simp,rfl⟩
theorem KS {n:Str} {x y z:Nat} (Rw:RowOk n "B" x y z) (g:Str→Int) (hw:¬ (0≤g "rs2" ∧ g "rs2" < 32)):HX (encX [.str n,A5 "B" g "rs2"]) (fun _=>False) True:=by
 refine AT Rw.mem Rw.look ?_
 rw [T6]
 exact BD SA ⟨("rs2",20),by rw [pl_B]; simp,hw⟩
theorem KT {n:Str} {x y z:Nat} (Rw:RowOk n "B" x y z) (g:Str→Int):HX (encX [.str n,A4 "B" g "rs2"]) (fun _=>False) True:=by
 refine AT Rw.mem Rw.look ?_
 rw [T7]
 exact BE SA ⟨("rs2",20),by rw [pl_B]; simp,rfl⟩
theorem KU {n:Str} {x y z:Nat} (Rw:RowOk n "B" x y z) (g:Str→Int) (hg:∀ p∈plF "B",0≤g p.1∧g p.1<32):HX (encX [.str n,A4 "B" g "imm"]) (fun _=>False) True:=by
 refine AT Rw.mem Rw.look ?_
 rw [T8]
 exact AU hg (C0 Rw.len trivial)
theorem UN {n:Str} {x y z:Nat} (Rw:RowOk n "B" x y z) (g:Str→Int) (hg:∀ p∈plF "B",0≤g p.1∧g p.1<32) (hr:hrF "B" (g "imm")=false):HX (encX [.str n,AI "B" g]) (fun _=>False) True:=by
 refine AT Rw.mem Rw.look ?_
 rw [acZ]
 have Fi:=CR (f := "B") (by simp [AB]) Rw.look (g "imm")
 refine AU hg (AD (p:=okB (fitR n (.sym (g "imm")))) Fi.1 (BN (fun _=>C0 Rw.len trivial) fun e=>?_))
 have e:(!valB (EK [.str n,.sym (g "imm")]))=false:=e
 rw [Fi.2,hr] at e; cases e
theorem pl_U:plF "U" = ([("rd",7)]:List (Str×Int)):=by kernel_rfl
theorem ks_U:AZ "U" = (["rd","imm"]:List Str):=by kernel_rfl
theorem aoG {x y z d s t:Nat} {v:Int} (hx:AM "U" x y z) (hd:d<32) (hs:s<32) (ht:t<32):fld (AG "U" x y z d s t v) 12 20=pcN v 0 20:=by
 have hx:x<128∧y=0∧z=0:=hx
 have l2:=CT v 0 20
 rw [show AG "U" x y z d s t v=pk [(7,x),(5,d),(20,pcN v 0 20)] from rfl]
 exact (AH (k:=5) (by omega)).trans ((AH (k:=0) (by omega)).trans (BW (by omega)))
theorem aoH {x y z d s t:Nat} {v:Int} (hx:AM "U" x y z) (hd:d<32) (hs:s<32) (ht:t<32) (h1:0≤v) (h2:v<1048576) (h3:v % 1=0):immV "U" ((AG "U" x y z d s t v:Nat):Int)=v:=by
 have q:=aoG (v:=v) hx hd hs ht
 exact aeA (adT (v:=v) hx hd hs ht).2 h1 h2 h3 q
theorem ahZ {n:Str} {x y z:Nat} (Rw:RowOk n "U" x y z) {g:Str→Int} {d s t:Nat} (hd:g "rd" = (d:Int)) (hs:g "rs1" = (s:Int)) (ht:g "rs2" = (t:Int)) (ld:d<32) (ls:s<32) (lt:t<32) (h1:0≤g "imm") (h2:g "imm" < 1048576) (h3:g "imm" % 1=0):HX (encX [.str n,AI "U" g]) (fun av=>∃ b,BF av=some (((AG "U" x y z d s t (g "imm"):Nat):Int),b)) False:=by
 refine AT Rw.mem Rw.look ?_
 rw [adA]
 refine AU (fun p hp=>?_) ?_
 ·have hp:p∈plF "U" := hp
  rw [pl_U] at hp
  simp only [List.mem_cons,List.not_mem_nil,or_false] at hp
  rw [hp]
  ·show 0≤g "rd" ∧ g "rd" < 32
   rw [hd]; omega
 have Fi:=CR (f := "U") (by simp [AB]) Rw.look (g "imm")
 have hr:hrF "U" (g "imm")=true:=anV h1 h2 h3
 refine AD (p:=okB (fitR n (.sym (g "imm")))) Fi.1 (BN (fun e=>?_) fun _=>CZ (C5 (YO h1 h2) fun av e=>?_))
 ·have e:(!valB (EK [.str n,.sym (g "imm")]))=true:=e
  rw [Fi.2,hr] at e; cases e
 ·rw [e]
  refine AK ⟨true,?_⟩
  show some (bo (bo (((BO "U" x y z:Nat):Int)) (g "rd" * 2 ^ (7:Int).toNat)) ((AG "U" 0 0 0 0 0 0 (g "imm"):Nat):Int),true)=_
  rw [hd,amV Rw.xyz ld ls lt]
theorem aiA {x y z:Nat} {g:Str→Int} {d s t:Nat} (hx:AM "U" x y z) (hd:g "rd" = (d:Int)) (hs:g "rs1" = (s:Int)) (ht:g "rs2" = (t:Int)) (ld:d<32) (ls:s<32) (lt:t<32) (h1:0≤g "imm") (h2:g "imm" < 1048576) (h3:g "imm" % 1=0):∀ k∈AZ "U",A3 "U" ((AG "U" x y z d s t (g "imm"):Nat):Int) k=g k:=by
 intro k hk
 rw [ks_U] at hk
 simp only [List.mem_cons,List.not_mem_nil,or_false] at hk
 rcases hk with q | q<;>rw [q]
 ·rw [hd]; exact YV hx ld ls lt
 ·exact aoH hx ld ls lt h1 h2 h3
theorem aeD:∀ p∈plF "U",p.1.length≤1000:=by
 rw [pl_U]; decide +kernel
theorem NO {n:Str} {x y z:Nat} (Rw:RowOk n "U" x y z) (g:Str→Int) (hw:¬ (0≤g "rd" ∧ g "rd" < 32)):HX (encX [.str n,A5 "U" g "rd"]) (fun _=>False) True:=by
 refine AT Rw.mem Rw.look ?_
 rw [X6]
 exact BD aeD ⟨("rd",7),by rw [pl_U]; simp,hw⟩
theorem NP {n:Str} {x y z:Nat} (Rw:RowOk n "U" x y z) (g:Str→Int):HX (encX [.str n,A4 "U" g "rd"]) (fun _=>False) True:=by
 refine AT Rw.mem Rw.look ?_
 rw [X7]
 exact BE aeD ⟨("rd",7),by rw [pl_U]; simp,rfl⟩
theorem KV {n:Str} {x y z:Nat} (Rw:RowOk n "U" x y z) (g:Str→Int) (hg:∀ p∈plF "U",0≤g p.1∧g p.1<32):HX (encX [.str n,A4 "U" g "imm"]) (fun _=>False) True:=by
 refine AT Rw.mem Rw.look ?_
 rw [T9]
 exact AU hg (C0 Rw.len trivial)
theorem UO {n:Str} {x y z:Nat} (Rw:RowOk n "U" x y z) (g:Str→Int) (hg:∀ p∈plF "U",0≤g p.1∧g p.1<32) (hr:hrF "U" (g "imm")=false):HX (encX [.str n,AI "U" g]) (fun _=>False) True:=by
 refine AT Rw.mem Rw.look ?_
 rw [adA]
 have Fi:=CR (f := "U") (by simp [AB]) Rw.look (g "imm")
 refine AU hg (AD (p:=okB (fitR n (.sym (g "imm")))) Fi.1 (BN (fun _=>C0 Rw.len trivial) fun e=>?_))
 have e:(!valB (EK [.str n,.sym (g "imm")]))=false:=e
 rw [Fi.2,hr] at e; cases e
theorem pl_J:plF "J" = ([("rd",7)]:List (Str×Int)):=by kernel_rfl
theorem ks_J:AZ "J" = (["rd","imm"]:List Str):=by kernel_rfl
theorem aoI {x y z d s t:Nat} {v:Int} (hx:AM "J" x y z) (hd:d<32) (hs:s<32) (ht:t<32):fld (AG "J" x y z d s t v) 12 8=pcN v 12 8∧fld (AG "J" x y z d s t v) 20 1=pcN v 11 1∧fld (AG "J" x y z d s t v) 21 10=pcN v 1 10∧fld (AG "J" x y z d s t v) 31 1=pcN v 20 1:=by
 have hx:x<128∧y=0∧z=0:=hx
 have l2:=CT v 12 8
 have l3:=CT v 11 1
 have l4:=CT v 1 10
 have l5:=CT v 20 1
 rw [show AG "J" x y z d s t v=pk [(7,x),(5,d),(8,pcN v 12 8),(1,pcN v 11 1),(10,pcN v 1 10),(1,pcN v 20 1)] from rfl]
 exact ⟨(AH (k:=5) (by omega)).trans ((AH (k:=0) (by omega)).trans (BW (by omega))),(AH (k:=13) (by omega)).trans ((AH (k:=8) (by omega)).trans ((AH (k:=0) (by omega)).trans (BW (by omega)))),(AH (k:=14) (by omega)).trans ((AH (k:=9) (by omega)).trans ((AH (k:=1) (by omega)).trans ((AH (k:=0) (by omega)).trans (BW (by omega))))),(AH (k:=24) (by omega)).trans ((AH (k:=19) (by omega)).trans ((AH (k:=11) (by omega)).trans ((AH (k:=10) (by omega)).trans ((AH (k:=0) (by omega)).trans (BW (by omega))))))⟩
theorem aoJ {x y z d s t:Nat} {v:Int} (hx:AM "J" x y z) (hd:d<32) (hs:s<32) (ht:t<32) (h1 : -1048576≤v) (h2:v<1048576) (h3:v % 2=0):immV "J" ((AG "J" x y z d s t v:Nat):Int)=v:=by
 have q:=aoI (v:=v) hx hd hs ht
 exact aeB (adU (v:=v) hx hd hs ht).2 h1 h2 h3 q.1 q.2.1 q.2.2.1 q.2.2.2
theorem aiB {n:Str} {x y z:Nat} (Rw:RowOk n "J" x y z) {g:Str→Int} {d s t:Nat} (hd:g "rd" = (d:Int)) (hs:g "rs1" = (s:Int)) (ht:g "rs2" = (t:Int)) (ld:d<32) (ls:s<32) (lt:t<32) (h1 : -1048576≤g "imm") (h2:g "imm" < 1048576) (h3:g "imm" % 2=0):HX (encX [.str n,AI "J" g]) (fun av=>∃ b,BF av=some (((AG "J" x y z d s t (g "imm"):Nat):Int),b)) False:=by
 refine AT Rw.mem Rw.look ?_
 rw [adB]
 refine AU (fun p hp=>?_) ?_
 ·have hp:p∈plF "J" := hp
  rw [pl_J] at hp
  simp only [List.mem_cons,List.not_mem_nil,or_false] at hp
  rw [hp]
  ·show 0≤g "rd" ∧ g "rd" < 32
   rw [hd]; omega
 have Fi:=CR (f := "J") (by simp [AB]) Rw.look (g "imm")
 have hr:hrF "J" (g "imm")=true:=anW h1 h2 h3
 refine AD (p:=okB (fitR n (.sym (g "imm")))) Fi.1 (BN (fun e=>?_) fun _=>CZ (C5 (YQ h1 h2) fun av e=>?_))
 ·have e:(!valB (EK [.str n,.sym (g "imm")]))=true:=e
  rw [Fi.2,hr] at e; cases e
 ·rw [e]
  refine AK ⟨true,?_⟩
  show some (bo (bo (((BO "J" x y z:Nat):Int)) (g "rd" * 2 ^ (7:Int).toNat)) ((AG "J" 0 0 0 0 0 0 (g "imm"):Nat):Int),true)=_
  rw [hd,amW Rw.xyz ld ls lt]
theorem aiC {x y z:Nat} {g:Str→Int} {d s t:Nat} (hx:AM "J" x y z) (hd:g "rd" = (d:Int)) (hs:g "rs1" = (s:Int)) (ht:g "rs2" = (t:Int)) (ld:d<32) (ls:s<32) (lt:t<32) (h1 : -1048576≤g "imm") (h2:g "imm" < 1048576) (h3:g "imm" % 2=0):∀ k∈AZ "J",A3 "J" ((AG "J" x y z d s t (g "imm"):Nat):Int) k=g k:=by
 intro k hk
 rw [ks_J] at hk
 simp only [List.mem_cons,List.not_mem_nil,or_false] at hk
 rcases hk with q | q<;>rw [q]
 ·rw [hd]; exact YW hx ld ls lt
 ·exact aoJ hx ld ls lt h1 h2 h3
theorem aeE:∀ p∈plF "J",p.1.length≤1000:=by
 rw [pl_J]; decide +kernel
theorem NQ {n:Str} {x y z:Nat} (Rw:RowOk n "J" x y z) (g:Str→Int) (hw:¬ (0≤g "rd" ∧ g "rd" < 32)):HX (encX [.str n,A5 "J" g "rd"]) (fun _=>False) True:=by
 refine AT Rw.mem Rw.look ?_
 rw [X8]
 exact BD aeE ⟨("rd",7),by rw [pl_J]; simp,hw⟩
theorem NR {n:Str} {x y z:Nat} (Rw:RowOk n "J" x y z) (g:Str→Int):HX (encX [.str n,A4 "J" g "rd"]) (fun _=>False) True:=by
 refine AT Rw.mem Rw.look ?_
 rw [X9]
 exact BE aeE ⟨("rd",7),by rw [pl_J]; simp,rfl⟩
theorem KW {n:Str} {x y z:Nat} (Rw:RowOk n "J" x y z) (g:Str→Int) (hg:∀ p∈plF "J",0≤g p.1∧g p.1<32):HX (encX [.str n,A4 "J" g "imm"]) (fun _=>False) True:=by
 refine AT Rw.mem Rw.look ?_
 rw [UA]
 exact AU hg (C0 Rw.len trivial)
theorem UP {n:Str} {x y z:Nat} (Rw:RowOk n "J" x y z) (g:Str→Int) (hg:∀ p∈plF "J",0≤g p.1∧g p.1<32) (hr:hrF "J" (g "imm")=false):HX (encX [.str n,AI "J" g]) (fun _=>False) True:=by
 refine AT Rw.mem Rw.look ?_
 rw [adB]
 have Fi:=CR (f := "J") (by simp [AB]) Rw.look (g "imm")
 refine AU hg (AD (p:=okB (fitR n (.sym (g "imm")))) Fi.1 (BN (fun _=>C0 Rw.len trivial) fun e=>?_))
 have e:(!valB (EK [.str n,.sym (g "imm")]))=false:=e
 rw [Fi.2,hr] at e; cases e
theorem pl_F:plF "F" = ([]:List (Str×Int)):=by kernel_rfl
theorem ks_F:AZ "F" = (["imm"]:List Str):=by kernel_rfl
theorem aoK {x y z d s t:Nat} {v:Int} (hx:AM "F" x y z) (hd:d<32) (hs:s<32) (ht:t<32):fld (AG "F" x y z d s t v) 20 8=pcN v 0 8:=by
 have hx:x<128∧y<8∧z=0:=hx
 have l4:=CT v 0 8
 rw [show AG "F" x y z d s t v=pk [(7,x),(5,0),(3,y),(5,0),(8,pcN v 0 8),(4,0)] from rfl]
 exact (AH (k:=13) (by omega)).trans ((AH (k:=8) (by omega)).trans ((AH (k:=5) (by omega)).trans ((AH (k:=0) (by omega)).trans (BW (by omega)))))
theorem aoL {x y z d s t:Nat} {v:Int} (hx:AM "F" x y z) (hd:d<32) (hs:s<32) (ht:t<32) (h1:0≤v) (h2:v<256) (h3:v % 1=0):immV "F" ((AG "F" x y z d s t v:Nat):Int)=v:=by
 have q:=aoK (v:=v) hx hd hs ht
 exact aeC (adV (v:=v) hx hd hs ht).2 h1 h2 h3 q
theorem aiD {n:Str} {x y z:Nat} (Rw:RowOk n "F" x y z) {g:Str→Int} {d s t:Nat} (hd:g "rd" = (d:Int)) (hs:g "rs1" = (s:Int)) (ht:g "rs2" = (t:Int)) (ld:d<32) (ls:s<32) (lt:t<32) (h1:0≤g "imm") (h2:g "imm" < 256) (h3:g "imm" % 1=0):HX (encX [.str n,AI "F" g]) (fun av=>∃ b,BF av=some (((AG "F" x y z d s t (g "imm"):Nat):Int),b)) False:=by
 refine AT Rw.mem Rw.look ?_
 rw [adC]
 refine AU (fun p hp=>?_) ?_
 ·have hp:p∈plF "F" := hp
  rw [pl_F] at hp
  simp only [List.mem_cons,List.not_mem_nil,or_false] at hp
 have Fi:=CR (f := "F") (by simp [AB]) Rw.look (g "imm")
 have hr:hrF "F" (g "imm")=true:=anX h1 h2 h3
 refine AD (p:=okB (fitR n (.sym (g "imm")))) Fi.1 (BN (fun e=>?_) fun _=>CZ (C5 (YR h1 h2) fun av e=>?_))
 ·have e:(!valB (EK [.str n,.sym (g "imm")]))=true:=e
  rw [Fi.2,hr] at e; cases e
 ·rw [e]
  refine AK ⟨true,?_⟩
  show some (bo (((BO "F" x y z:Nat):Int)) ((AG "F" 0 0 0 0 0 0 (g "imm"):Nat):Int),true)=_
  rw [amX Rw.xyz ld ls lt]
theorem aiE {x y z:Nat} {g:Str→Int} {d s t:Nat} (hx:AM "F" x y z) (hd:g "rd" = (d:Int)) (hs:g "rs1" = (s:Int)) (ht:g "rs2" = (t:Int)) (ld:d<32) (ls:s<32) (lt:t<32) (h1:0≤g "imm") (h2:g "imm" < 256) (h3:g "imm" % 1=0):∀ k∈AZ "F",A3 "F" ((AG "F" x y z d s t (g "imm"):Nat):Int) k=g k:=by
 intro k hk
 rw [ks_F] at hk
 simp only [List.mem_cons,List.not_mem_nil,or_false] at hk
 rw [hk]
 ·exact aoL hx ld ls lt h1 h2 h3
theorem avH:∀ p∈plF "F",p.1.length≤1000:=by
 rw [pl_F]; decide +kernel
theorem KY {n:Str} {x y z:Nat} (Rw:RowOk n "F" x y z) (g:Str→Int) (hg:∀ p∈plF "F",0≤g p.1∧g p.1<32):HX (encX [.str n,A4 "F" g "imm"]) (fun _=>False) True:=by
 refine AT Rw.mem Rw.look ?_
 rw [UB]
 exact AU hg (C0 Rw.len trivial)
theorem UQ {n:Str} {x y z:Nat} (Rw:RowOk n "F" x y z) (g:Str→Int) (hg:∀ p∈plF "F",0≤g p.1∧g p.1<32) (hr:hrF "F" (g "imm")=false):HX (encX [.str n,AI "F" g]) (fun _=>False) True:=by
 refine AT Rw.mem Rw.look ?_
 rw [adC]
 have Fi:=CR (f := "F") (by simp [AB]) Rw.look (g "imm")
 refine AU hg (AD (p:=okB (fitR n (.sym (g "imm")))) Fi.1 (BN (fun _=>C0 Rw.len trivial) fun e=>?_))
 have e:(!valB (EK [.str n,.sym (g "imm")]))=false:=e
 rw [Fi.2,hr] at e; cases e
theorem pl_E:plF "E" = ([]:List (Str×Int)):=by kernel_rfl
theorem ks_E:AZ "E" = ([]:List Str):=by kernel_rfl
theorem aiF {n:Str} {x y z:Nat} (Rw:RowOk n "E" x y z) {g:Str→Int} {d s t:Nat} (hd:g "rd" = (d:Int)) (hs:g "rs1" = (s:Int)) (ht:g "rs2" = (t:Int)) (ld:d<32) (ls:s<32) (lt:t<32):HX (encX [.str n,AI "E" g]) (fun av=>∃ b,BF av=some (((AG "E" x y z d s t (g "imm"):Nat):Int),b)) False:=by
 refine AT Rw.mem Rw.look ?_
 rw [alV]
 refine AU (fun p hp=>?_) ?_
 ·have hp:p∈plF "E" := hp
  rw [pl_E] at hp
  simp only [List.mem_cons,List.not_mem_nil,or_false] at hp
 refine AK ⟨false,?_⟩
 show some ((((BO "E" x y z:Nat):Int)),false)=_
 have hx:x<128∧y=0∧z<33554432:=Rw.xyz
 rw [show BO "E" x y z=AG "E" x y z d s t (g "imm") by show x+y*4096+z*128=pk [(7,x),(25,z)]; simp only [pk]; omega]
theorem aiG {x y z:Nat} {g:Str→Int} {d s t:Nat} (hx:AM "E" x y z) (hd:g "rd" = (d:Int)) (hs:g "rs1" = (s:Int)) (ht:g "rs2" = (t:Int)) (ld:d<32) (ls:s<32) (lt:t<32):∀ k∈AZ "E",A3 "E" ((AG "E" x y z d s t (g "imm"):Nat):Int) k=g k:=by
 intro k hk
 rw [ks_E] at hk
 simp only [List.mem_cons,List.not_mem_nil,or_false] at hk
theorem avI:∀ p∈plF "E",p.1.length≤1000:=by
 rw [pl_E]; decide +kernel
end
end Mine
end
section
open PySem.SeqAt MineH
namespace Mine
section
variable {prog:Program} {w:World} {h:Heap}
structure RegOk (g:Str→Int) (d s t:Nat):Prop where
 hd:g "rd" = (d:Int)
 hs:g "rs1" = (s:Int)
 ht:g "rs2" = (t:Int)
 ld:d<32
 ls:s<32
 lt:t<32
theorem RegOk.places {g:Str→Int} {d s t:Nat} (r:RegOk g d s t):∀ f∈formsL,∀ p∈plF f,0≤g p.1∧g p.1<32:=by
 have a:0≤g "rd" ∧ g "rd" < 32:=by have:=r.ld; rw [r.hd]; omega
 have b:0≤g "rs1" ∧ g "rs1" < 32:=by have:=r.ls; rw [r.hs]; omega
 have c:0≤g "rs2" ∧ g "rs2" < 32:=by have:=r.lt; rw [r.ht]; omega
 have key:∀ (l:List (Str×Int)),(∀ p∈l,p.1 = "rd" ∨ p.1 = "rs1" ∨ p.1 = "rs2")→∀ p∈l,0≤g p.1∧g p.1<32:=fun l hl p hp=>by
  rcases hl p hp with q | q | q<;>rw [q]
  ·exact a
  ·exact b
  ·exact c
 have all:∀ f∈formsL,∀ p∈plF f,p.1 = "rd" ∨ p.1 = "rs1" ∨ p.1 = "rs2" := by decide +kernel
 exact fun f hf=>key _ (all f hf)
theorem JY:∀ f∈AB,f∈formsL:=by decide +kernel
abbrev QQ (f:Str) (x y z d s t:Nat) (g:Str→Int):Nat:=AG f x y z d s t (g "imm")
theorem YY {n:Str} {x y z d s t:Nat} {g:Str→Int} (r:RegOk g d s t):∀ f∈AB,RowOk n f x y z→hrF f (g "imm")=true→HX (encX [.str n,AI f g]) (fun av=>∃ b,BF av=some (((QQ f x y z d s t g:Nat):Int),b)) False:=by
 obtain ⟨hd,hs,ht,ld,ls,lt⟩:=r
 refine by7 ?_ ?_ ?_ ?_ ?_ ?_ ?_<;>intro Rw hr
 ·have q:=NB hr; exact ahR Rw hd hs ht ld ls lt q.1 q.2.1 q.2.2
 ·have q:=NC hr; exact ahT Rw hd hs ht ld ls lt q.1 q.2.1 q.2.2
 ·have q:=ND hr; exact ahV Rw hd hs ht ld ls lt q.1 q.2.1 q.2.2
 ·have q:=NE hr; exact ahX Rw hd hs ht ld ls lt q.1 q.2.1 q.2.2
 ·have q:=NF hr; exact ahZ Rw hd hs ht ld ls lt q.1 q.2.1 q.2.2
 ·have q:=NG hr; exact aiB Rw hd hs ht ld ls lt q.1 q.2.1 q.2.2
 ·have q:=NH hr; exact aiD Rw hd hs ht ld ls lt q.1 q.2.1 q.2.2
theorem atM {n:Str} {x y z d s t:Nat} {g:Str→Int} (r:RegOk g d s t):∀ f∈AB,RowOk n f x y z→hrF f (g "imm")=false→HX (encX [.str n,AI f g]) (fun _=>False) True:=by
 have pl:=r.places
 refine by7 ?_ ?_ ?_ ?_ ?_ ?_ ?_<;>intro Rw hr
 ·exact UK Rw g (pl _ Rw.form) hr
 ·exact UL Rw g (pl _ Rw.form) hr
 ·exact UM Rw g (pl _ Rw.form) hr
 ·exact UN Rw g (pl _ Rw.form) hr
 ·exact UO Rw g (pl _ Rw.form) hr
 ·exact UP Rw g (pl _ Rw.form) hr
 ·exact UQ Rw g (pl _ Rw.form) hr
theorem atO {n:Str} {x y z d s t:Nat} {g:Str→Int} (r:RegOk g d s t):∀ f∈AB,RowOk n f x y z→HX (encX [.str n,A4 f g "imm"]) (fun _=>False) True:=by
 have pl:=r.places
 refine by7 ?_ ?_ ?_ ?_ ?_ ?_ ?_<;>intro Rw
 ·exact KH Rw g (pl _ Rw.form)
 ·exact KK Rw g (pl _ Rw.form)
 ·exact KP Rw g (pl _ Rw.form)
 ·exact KU Rw g (pl _ Rw.form)
 ·exact KV Rw g (pl _ Rw.form)
 ·exact KW Rw g (pl _ Rw.form)
 ·exact KY Rw g (pl _ Rw.form)
theorem aeF {x y z d s t:Nat} {g:Str→Int} (r:RegOk g d s t):∀ f∈AB,AM f x y z→hrF f (g "imm")=true→∀ k∈AZ f,A3 f ((QQ f x y z d s t g:Nat):Int) k=g k:=by
 obtain ⟨hd,hs,ht,ld,ls,lt⟩:=r
 refine by7 ?_ ?_ ?_ ?_ ?_ ?_ ?_<;>intro hx hr
 ·have q:=NB hr; exact ahS hx hd hs ht ld ls lt q.1 q.2.1 q.2.2
 ·have q:=NC hr; exact ahU hx hd hs ht ld ls lt q.1 q.2.1 q.2.2
 ·have q:=ND hr; exact ahW hx hd hs ht ld ls lt q.1 q.2.1 q.2.2
 ·have q:=NE hr; exact ahY hx hd hs ht ld ls lt q.1 q.2.1 q.2.2
 ·have q:=NF hr; exact aiA hx hd hs ht ld ls lt q.1 q.2.1 q.2.2
 ·have q:=NG hr; exact aiC hx hd hs ht ld ls lt q.1 q.2.1 q.2.2
 ·have q:=NH hr; exact aiE hx hd hs ht ld ls lt q.1 q.2.1 q.2.2
theorem hitG {x y z d s t:Nat} (v:Int) (ld:d<32) (ls:s<32) (lt:t<32):∀ f∈formsL,AM f x y z→AG f x y z d s t v &&& mkN f=BO f x y z∧AG f x y z d s t v<4294967296:=
 by9 (fun h=>amY h ld ls lt) (fun h=>adP h ld ls lt) (fun h=>adQ h ld ls lt) (fun h=>adR h ld ls lt) (fun h=>adS h ld ls lt) (fun h=>adT h ld ls lt) (fun h=>adU h ld ls lt) (fun h=>adV h ld ls lt) (fun h=>amZ h ld ls lt)
theorem layG {x y z d s t:Nat} (v:Int) (ld:d<32) (ls:s<32) (lt:t<32):∀ f∈formsL,AM f x y z→lay 0 (layL f x y z d s t v)=((AG f x y z d s t v:Nat):Int):=
 by9 (fun h=>anA h ld ls lt) (fun h=>anB h ld ls lt) (fun h=>anC h ld ls lt) (fun h=>anD h ld ls lt) (fun h=>anE h ld ls lt) (fun h=>anF h ld ls lt) (fun h=>anG h ld ls lt) (fun h=>anH h ld ls lt) (fun h=>anI h ld ls lt)
theorem YZ:∀ (l:List (Int×Nat)) (a:Int) (n:Nat),0≤a→a<2 ^ n→n+l.length≤64→HX (layT a l) (fun av=>av=.sym (lay a l)) False
 | [],a,n,_,_,_=>⟨rfl⟩
 | (v,p) :: l,a,n,h1,h2,h3=>by
  have b:=M0 v p
  rw [List.length_cons] at h3
  have le:(2:Int) ^ n≤2 ^ 63:=by
   have:=Nat.pow_le_pow_right (n:=2) (by decide) (show n≤63 by omega)
   exact_mod_cast this
  exact AD (by omega) (YZ l (a*2+bitV v p) (n+1) (by omega) (by rw [Int.pow_succ]; omega) (by omega))
theorem NS:∀ (k:Nat) (l:List (Int×Nat)) (a:Int) (n:Nat),0≤a→a<2 ^ n→n+l.length≤64→HX (layF k a l) (fun av=>av=.sym (lay a l)) False
 | 0,l,a,n,h1,h2,h3=>YZ l a n h1 h2 h3
 | _+1,[],a,n,_,_,_=>⟨rfl⟩
 | k+1,(v,p) :: l,a,n,h1,h2,h3=>by
  have b:=M0 v p
  rw [List.length_cons] at h3
  exact NS k l (a*2+bitV v p) (n+1) (by omega) (by rw [Int.pow_succ]; omega) (by omega)
theorem IW (x y z d s t v:Int):∀ f∈formsL,(layL f x y z d s t v).length=32:=by9 rfl rfl rfl rfl rfl rfl rfl rfl rfl
theorem FL {x:R AV} {i:Int} (h:HX x (fun av=>av=.sym i) False):okI x∧valI x=i:=acR (R.holds_mono (fun _ e=>⟨true,by rw [e]; rfl⟩) id h.out)
theorem atP (v:Int):∀ f∈AB,okI (dueR f v)∧valI (dueR f v)=((AG f 0 0 0 0 0 0 v:Nat):Int):=by
 intro f hf
 have hx:AM f 0 0 0:=(by7 (Q:=fun f=>AM f 0 0 0) ⟨by decide,by decide,rfl⟩ ⟨by decide,by decide,by decide⟩ ⟨by decide,by decide,rfl⟩ ⟨by decide,by decide,rfl⟩ ⟨by decide,rfl,rfl⟩ ⟨by decide,rfl,rfl⟩ ⟨by decide,by decide,rfl⟩) f hf
 have e:=layG (x:=0) (y:=0) (z:=0) (d:=0) (s:=0) (t:=0) v (by decide) (by decide) (by decide) f (JY f hf) hx
 refine FL (x:=dueR f v) ?_
 have q:dueR f v=IM [drF f,.dS ["i"] [.sym v]]:=(by7 (Q:=fun f=>dueR f v=IM [drF f,.dS ["i"] [.sym v]]) (by kernel_rfl) (by kernel_rfl) (by kernel_rfl) (by kernel_rfl) (by kernel_rfl) (by kernel_rfl) (by kernel_rfl)) f hf
 rw [q,atF v f hf,← e]
 exact NS _ _ 0 0 (by decide) (by decide) (by rw [IW _ _ _ _ _ _ _ f (JY f hf)]; decide)
theorem aoM {v:Int}:∀ f∈AB,hrF f v=true→HX (ER [.str f,.sym v]) (fun av=>av=.sym ((AG f 0 0 0 0 0 0 v:Nat):Int)) False:=by
 refine by7 ?_ ?_ ?_ ?_ ?_ ?_ ?_<;>intro hr
 ·have q:=NB hr; exact YK q.1 q.2.1
 ·have q:=NC hr; exact YL q.1 q.2.1
 ·have q:=ND hr; exact YM q.1 q.2.1
 ·have q:=NE hr; exact YN q.1 q.2.1
 ·have q:=NF hr; exact YO q.1 q.2.1
 ·have q:=NG hr; exact YQ q.1 q.2.1
 ·have q:=NH hr; exact YR q.1 q.2.1
theorem atQ {v:Int} {f:Str} (hf:f∈AB) (hr:hrF f v=true):okI (bitR f v)∧valI (bitR f v)=((AG f 0 0 0 0 0 0 v:Nat):Int):=FL (x:=bitR f v) (aoM f hf hr)
theorem chgG {B:Nat} (hB:B<4294967296) {v:Int}:∀ f∈AB,hrF f v=true→∃ X:Nat,X<4294967296∧bo (Builtin.bitAnd (Builtin.bitAnd (B:Int) (Builtin.bitNot (C6 f))) 4294967295) ((AG f 0 0 0 0 0 0 v:Nat):Int)=(X:Int)∧(X:Int)=(B:Int) - Builtin.bitAnd (B:Int) (C6 f)+((AG f 0 0 0 0 0 0 v:Nat):Int)∧immV f (X:Int)=v:=by
 refine by7 ?_ ?_ ?_ ?_ ?_ ?_ ?_<;>intro hr
 ·have q:=NB hr; refine ob14 (anJ hB v) fun X a b c d=>?_; exact ⟨X,a,b,c,adW a q.1 q.2.1 q.2.2 d⟩
 ·have q:=NC hr; refine ob14 (anK hB v) fun X a b c d=>?_; exact ⟨X,a,b,c,adX a q.1 q.2.1 q.2.2 d⟩
 ·have q:=ND hr; refine ob15 (anL hB v) fun X a b c d e=>?_; exact ⟨X,a,b,c,adY a q.1 q.2.1 q.2.2 d e⟩
 ·have q:=NE hr; refine ob17 (anM hB v) fun X a b c d e f g=>?_; exact ⟨X,a,b,c,adZ a q.1 q.2.1 q.2.2 d e f g⟩
 ·have q:=NF hr; refine ob14 (anN hB v) fun X a b c d=>?_; exact ⟨X,a,b,c,aeA a q.1 q.2.1 q.2.2 d⟩
 ·have q:=NG hr; refine ob17 (anO hB v) fun X a b c d e f g=>?_; exact ⟨X,a,b,c,aeB a q.1 q.2.1 q.2.2 d e f g⟩
 ·have q:=NH hr; refine ob14 (anP hB v) fun X a b c d=>?_; exact ⟨X,a,b,c,aeC a q.1 q.2.1 q.2.2 d⟩
theorem atR {B:Nat} (hB:B<4294967296) {v:Int} {f:Str} (hf:f∈AB) (hr:hrF f v=true):∃ X:Nat,X<4294967296∧okI (chgR f (B:Int) v)∧valI (chgR f (B:Int) v)=(X:Int)∧(X:Int)=(B:Int) - Builtin.bitAnd (B:Int) (C6 f)+((AG f 0 0 0 0 0 0 v:Nat):Int)∧immV f (X:Int)=v:=by
 refine ob14 (chgG hB f hf hr) fun X a b c d=>?_
 have k:=FL (x:=chgR f (B:Int) v) (i:=(X:Int)) (by
  show HX (abL [.sym (B:Int),.str f,.sym v]) _ False
  rw [amE (B:Int) v f hf]
  refine CZ (C5 (aoM f hf hr) fun av e=>?_)
  rw [e]
  refine AK ?_
  show AV.sym _=AV.sym _
  rw [← b])
 exact ⟨X,a,k.1,k.2,c,d⟩
theorem Y0 {a:Str→Int} {o:Str→AV}:∀ {ks:List Str},(∀ k∈ks,∃ s,BF (o k)=some (a k,s))→eqFL (ks.map fun k=>.sym (a k)) (ks.map o)=some true
 | [],_=>rfl
 | k :: ks,h=>by
  have ih:=Y0 (ks:=ks) fun k' h'=>h k' (by simp [h'])
  refine ob11 (h k (by simp)) fun s e=>?_
  have e1:eqF (und (.sym (a k))) (und (o k))=some true:=by
   cases q:o k<;>rw [q] at e<;>first | exact A0 e | (show some (a k==_)=_; rw [(Prod.mk.inj (Option.some.inj e)).1,beq_self_eq_true])
  show ((eqF (und (.sym (a k))) (und (o k))).bind fun b=>(eqFL (ks.map fun k=>.sym (a k)) (ks.map o)).bind fun c=>some (b&&c))=_
  rw [e1,ih]; rfl
theorem aeG {n f:Str} {x y z:Nat} (Rw:RowOk n f x y z) {W:Nat} (hW:W &&& mkN f=BO f x y z) {o:Str→AV} (ho:∀ k∈AZ f,∃ s,BF (o k)=some (A3 f (W:Int) k,s)) :
  eqN (und (decV (W:Int) rowsF)) (und (.tup [.str n,.dS (AZ f) ((AZ f).map o)]))=some true:=by
 have hit:hitR W (mkN f,BO f x y z,n,f)=true:=decide_eq_true hW
 rw [M4 (W:=W) (r:=(mkN f,BO f x y z,n,f)) (fun r' h' e=>M3 h' Rw.row e hit) Rw.row hit]
 have hn:=JS _ Rw.row
 show eqGL [.str n,.dS (AZ f) ((AZ f).map fun k=>.sym (A3 f (W:Int) k))] [.str n,.dS (AZ f) ((AZ f).map o)]=_
 have e1:eqG (.str n) (.str n)=some true:=by
  show some (n==n)=_
  rw [beq_self_eq_true]
 have e2:eqG (.dS (AZ f) ((AZ f).map fun k=>.sym (A3 f (W:Int) k))) (.dS (AZ f) ((AZ f).map o))=some true:=by
  show (match decide (AZ f=AZ f∧(AZ f).Nodup) with | true=>eqFL ((AZ f).map fun k=>.sym (A3 f (W:Int) k)) ((AZ f).map o) | false=>none)=_
  rw [decide_eq_true ⟨rfl,hn⟩]
  exact Y0 ho
 exact R4 e1 e2
end
end Mine
end
section
open PySem.SeqAt MineH
namespace Mine
section
variable {prog:Program} {w:World} {h:Heap}
noncomputable def upd (g:Str→Int) (e:Int):Str→Int:=fun k=>match k==("imm" : Str) with | true=>e | false=>g k
theorem aiH (g:Str→Int) (e:Int):upd g e "imm" = e:=by kernel_rfl
theorem aiI {g:Str→Int} {e:Int} {d s t:Nat} (r:RegOk g d s t):RegOk (upd g e) d s t:=
 ⟨(show upd g e "rd" = g "rd" by kernel_rfl).trans r.hd,(show upd g e "rs1" = g "rs1" by kernel_rfl).trans r.hs,(show upd g e "rs2" = g "rs2" by kernel_rfl).trans r.ht,r.ld,r.ls,r.lt⟩
theorem abO {f:Str} {g:Str→Int} {e:Int} {ev:AV} (he:syV ev=.sym e):sy (G3 f g ev)=AI f (upd g e):=by
 unfold G3 AI upd
 show AV.dS (AZ f) (List.map syV (List.map _ (AZ f)))=_
 rw [List.map_map]
 congr 1
 refine List.map_congr_left fun k _=>?_
 show syV (match k==("imm" : Str) with | true=>ev | false=>.sym (g k))=_
 cases k==("imm" : Str) with
 | true=>exact he
 | false=>rfl
theorem Y1 {g:Str→Int} {e:Int} {ev:AV} (he:∃ s,BF ev=some (e,s)) (k:Str):∃ s,BF (match k==("imm" : Str) with | true=>ev | false=>.sym (g k))=some (upd g e k,s):=by
 unfold upd
 cases k==("imm" : Str) with
 | true=>exact he
 | false=>exact ⟨true,rfl⟩
theorem abP (f:Str) (g:Str→Int) (key:Str):sy (A4 f g key)=A4 f g key:=by
 unfold A4
 show AV.dS _ (List.map syV (List.map _ _))=_
 rw [List.map_map]
 rfl
structure EdgeF (n f:Str) (o ev:AV) (hr:Bool):Prop where
 fit:okB (fitR n ev)∧valB (fitR n ev)=hr
 ref:okB (refR n o)∧valB (refR n o)=!hr
 enc:hr=true→okI (encR n o)∧(0≤valI (encR n o)∧valI (encR n o)<4294967296)∧decP (valI (encR n o)) n o∧decB (valI (encR n o)) n o=false
theorem LP {n f:Str} {x y z d s t:Nat} (hf:f∈AB) (Rw:RowOk n f x y z) {g:Str→Int} (r:RegOk g d s t) {e:Int} {ev:AV} (he:syV ev=.sym e) (hi:∃ s,BF ev=some (e,s)) (hs:sy ev=.sym e):EdgeF n f (G3 f g ev) ev (hrF f e):=by
 have r':=aiI (e:=e) r
 have ws:=abO (f:=f) (g:=g) he
 have eR:refR n (G3 f g ev)=refX [.str n,AI f (upd g e)]:=by
  show refX [sy (.str n),sy (G3 f g ev)]=_
  rw [ws]; rfl
 have eE:encR n (G3 f g ev)=encN [.str n,AI f (upd g e)]:=by
  show encN [sy (.str n),sy (G3 f g ev)]=_
  rw [ws]; rfl
 have eF:fitR n ev=EK [.str n,.sym e]:=by
  show EK [sy (.str n),sy ev]=_
  rw [hs]; rfl
 have im':upd g e "imm" = e:=aiH g e
 refine ⟨?_,?_,fun hr=>?_⟩
 ·rw [eF]; exact CR hf Rw.look e
 ·rw [eR]
  cases q:hrF f e with
  | true=>exact ahK (C5 (YY (g:=upd g e) r' f hf Rw (by rw [im']; exact q)) fun _ _=>trivial)
  | false=>exact A6 (atM (g:=upd g e) r' f hf Rw (by rw [im']; exact q))
 ·rw [eE]
  have q:hrF f (upd g e "imm")=true:=by rw [im']; exact hr
  refine ob02 (YB (YY (g:=upd g e) r' f hf Rw q)) fun k1 k2=>?_
  have hh:QQ f x y z d s t (upd g e) &&& mkN f=BO f x y z∧QQ f x y z d s t (upd g e)<4294967296:=hitG (x:=x) (y:=y) (z:=z) (upd g e "imm") r'.ld r'.ls r'.lt f (JY f hf) Rw.xyz
  have bk:=aeF (g:=upd g e) r' f hf Rw.xyz q
  have dq:eqN (und (decV ((QQ f x y z d s t (upd g e):Nat):Int) rowsF)) (und (.tup [.str n,G3 f g ev]))=some true:=aeG (o:=fun k=>match k==("imm" : Str) with | true=>ev | false=>.sym (g k)) Rw hh.1 (fun k hk=>by
   rw [bk k hk]; exact Y1 hi k)
  refine ⟨k1,?_,?_,?_⟩
  ·rw [k2]; have:=hh.2; omega
  ·rw [k2]; unfold decP; rw [dq]; rfl
  ·rw [k2]; unfold decB; rw [dq]; rfl
theorem SB {n f:Str} {o ev:AV} {hr:Bool} (F:EdgeF n f o ev hr) {env:AEnv} {sl:SL} {P:Fl×AEnv×SL→Prop} (hP:P (.nxt,env,sl)):HX (ahA n o ev hr env sl) P False:=by
 refine AD F.fit.1 (AD rfl (AD (fun _=>⟨F.ref.1,rfl,trivial⟩) (BN (fun e=>?_) fun _=>?_)))
 ·rw [F.fit.2,F.ref.2,beq_self_eq_true] at e
  cases hr<;>cases e
 ·cases hr with
  | false=>exact AK hP
  | true=>
   refine ob04 (F.enc rfl) fun e1 e2 e3 e4=>?_
   refine AD e1 (AD e2 (AD e3 (BN (fun e=>?_) fun _=>AK hP)))
   rw [e4] at e; cases e
theorem abQ {n f:Str} {o ev:AV} {hr:Bool} (F:EdgeF n f o ev hr) {env:AEnv} {sl:SL} {P:Fl×AEnv×SL→Prop} (hP:P (.nxt,env,sl)):HX (alM n o ev hr env sl) P False:=by
 refine AD F.fit.1 (AD rfl (AD (fun _=>⟨F.ref.1,rfl,trivial⟩) (BN (fun e=>?_) fun _=>AD (fun q=>?_) (BN (fun e=>?_) fun _=>AK hP))))
 ·rw [F.fit.2,F.ref.2,beq_self_eq_true] at e
  cases hr<;>cases e
 ·refine ob04 (F.enc q) fun e1 e2 e3 e4=>?_
  exact ⟨e1,e2,e3,trivial⟩
 ·cases hr with
  | false=>cases e
  | true=>rw [(F.enc rfl).2.2.2] at e; cases e
theorem Y2:∀ f∈AB,∀ p∈DX f++D4 f,hrF f p.1=p.2:=by
 refine by7 ?_ ?_ ?_ ?_ ?_ ?_ ?_
 ·rw [el_I.1,el_I.2]; decide +kernel
 ·rw [el_H.1,el_H.2]; decide +kernel
 ·rw [el_S.1,el_S.2]; decide +kernel
 ·rw [el_B.1,el_B.2]; decide +kernel
 ·rw [el_U.1,el_U.2]; decide +kernel
 ·rw [el_J.1,el_J.2]; decide +kernel
 ·rw [el_F.1,el_F.2]; decide +kernel
theorem UR (r:Int):∀ f∈AB,G7 (.lst (XW f r))=true:=
 by7 (by kernel_rfl) (by kernel_rfl) (by kernel_rfl) (by kernel_rfl) (by kernel_rfl) (by kernel_rfl) (by kernel_rfl)
def endW (p:Fl×AEnv×SL):R (List AV×AV):=match p with
 | (.ret v,_,sl)=>(frzE sl v).bind fun q=>match (q.1.getD sl)[0]? with
  | some (Slot.own (.lst l))=>(match D6 l with | true=>.ret (l,q.2) | false=>.fail)
  | _=>.fail
 | (.nxt,_,_)=>.fail
theorem Y3 {C:Ctx} {d n:Nat} {sc:Scope} {body:List Stmt} {x:Str} {xs:List Str} {items args:List AV} {P:List AV×AV→Prop} (hz:(Nat.beq args.length xs.length&&D6 items)=true)
  (h:HX (BQ C d sc n ((x,.loc 0) :: xs.zip args) body [.own (.lst items)]) (fun p=>HX (endW p) P False) False):HX (MP C d n sc body x xs items args) P False:=by
 unfold MP
 rw [hz]
 exact CZ h
theorem abR {env:AEnv} {items:List AV} {v:AV} {P:List AV×AV→Prop} (hv:G7 v=true) (hi:D6 items=true) (hp:P (items,v)):HX (endW (.ret v,env,[.own (.lst items)])) P False:=by
 show HX ((frzE [.own (.lst items)] v).bind _) P False
 unfold frzE
 rw [hv]
 show HX (match D6 items with | true=>R.ret (items,v) | false=>.fail) P False
 rw [hi]
 exact AK hp
theorem A2 {C:Ctx} {d n:Nat} {sc:Scope} {env:AEnv} {r:List Stmt} {sl:SL} {P:Fl×AEnv×SL→Prop} {X:Prop} (h:HX (BQ C d sc n env r sl) P X):HX (agP C d n sc r (.nxt,env,sl)) P X:=h
theorem DA {sc:Scope} {body:AEnv→SL→RS} {t:Expr} {l:List AV} {env:AEnv} {sl:SL} {P:Fl×AEnv×SL→Prop} {X:Prop} (h:HX (J3 sc body t l env sl) P X):HX (XK sc body t l (.nxt,env,sl)) P X:=h
def aiJ (f:Str) (r:Int):List AV:=([(DJ f,true),(HQ f - 1,G2 f==1),(HQ f,false)]:List (Int×Bool)).map (fun p=>.num p.1)++[.sym r]++(D4 f).map (fun p=>.num p.1)
theorem Y4 {f:Str} {r:Int} {a:AV} (h:a∈aiJ f r):a=.sym r∨∃ p∈DX f++D4 f,a=.num p.1:=by
 unfold aiJ at h
 rcases List.mem_append.mp h with h | h
 ·rcases List.mem_append.mp h with h | h
  ·refine ob12 (List.mem_map.mp h) fun p hp e=>?_
   refine .inr ⟨p,List.mem_append_left _ ?_,e.symm⟩
   unfold DX
   exact List.mem_cons_of_mem _ hp
  ·exact .inl (by simpa using h)
 ·refine ob12 (List.mem_map.mp h) fun p hp e=>?_
  exact .inr ⟨p,List.mem_append_right _ hp,e.symm⟩
abbrev atS (n f:Str) (g:Str→Int) (l:List Int) (a s:Int):R (List AV×AV):=MP c31 3 60 (AC 45) (AE 45) "well" ["name","form","drawing","fields"] (KA l a s) [.str n,.str f,drF f,AI f g]
theorem O6 {l:List Int} {a s:Int} (h:0≤a∧a<1000∧l.length<1000∧0≤s∧s<2147483648):O3 l a s [Mx]:=⟨h,.inl rfl,fun n hn=>by
 simp only [List.mem_cons,List.not_mem_nil,or_false] at hn
 subst hn; decide⟩
theorem DB (l:List Int) (a s:Int) (h:0≤s∧s<2147483648):0≤BI l a s∧BI l a s<2147483648:=by
 unfold BI MU
 cases decide (a<(l.length:Int)) with
 | true=>exact h
 | false=>
  show 0≤Int.fmod _ _∧Int.fmod _ _<_
  rw [Int.fmod_eq_emod_of_nonneg _ (by decide)]
  omega
theorem Y5 {n f:Str} {x y z d s t:Nat} (hf:f∈AB) (Rw:RowOk n f x y z) {g:Str→Int} (r:RegOk g d s t) (hr:hrF f (g "imm")=true) {l:List Int} {a j:Int} (h1:0≤a∧a<999) (h2:l.length<1000) (h3:0≤j∧j<2147483648) :
  HX (atS n f g l a j) (fun p=>p=(KA l (a+1+1) (BI l (a+1) (BI l a j)),.sb true)) False:=by
 have j2:=DB l a j h3
 refine Y3 (by kernel_rfl) ?_
 show HX (BQ c31 3 (AC 45) 60 (E0 n f g) (AE 45) (IN l a j)) _ False
 rw [alP]
 refine AR (A1 (asK n f g l a j) (AD (O6 ⟨h1.1,by omega,h2,h3⟩) (AD (O6 ⟨by omega,by omega,h2,j2⟩) (AK (A2 ?_)))))
 generalize hc:(B4 l a j).fmod Mx=c
 generalize hq:(B4 l (a+1) (BI l a j)).fmod Mx=q
 have hc':0≤c∧c<2147483647:=by
  rw [← hc,Int.fmod_eq_emod_of_nonneg _ (by decide)]; exact ⟨Int.emod_nonneg _ (by decide),Int.emod_lt_of_pos _ (by decide)⟩
 generalize hS:IN l (a+1+1) (BI l (a+1) (BI l a j))=S
 refine AR (A1 (asL n g c q S f hf) (AD (by omega) (AK (A2 ?_))))
 have hb:0≤c*2+q.fmod 2∧c*2+q.fmod 2<4294967296:=by
  rw [Int.fmod_eq_emod_of_nonneg _ (by decide)]; omega
 generalize c*2+q.fmod 2=b at *
 (refine ob11 (Int.eq_ofNat_of_zero_le hb.1) fun B ζ1=>?_; subst ζ1)
 have hB:B<4294967296:=by omega
 refine AR (A1 (asM n g c q B S f hf) (AK (A2 ?_)))
 have du:=atP (g "imm") f hf
 refine AR (A1 (asN n g c q B S f hf) (AD du.1 (AK (A2 ?_))))
 rw [du.2]
 generalize hU:AG f 0 0 0 0 0 0 (g "imm")=U at *
 refine ob15 (atR hB hf hr) fun X x1 x2 x3 x4 x5=>?_
 refine AR (A1 (asO n g c q B U S f hf) (AD x2 (AK (A2 ?_))))
 rw [x3]
 have bk:=atQ hf hr
 rw [hU] at bk x4
 refine AR (A1 (asP n g c q B U X S f hf) (AD bk.1 (AD rfl (AD (fun _=>⟨rfl,trivial⟩) (BN (fun e=>?_) fun _=>AK (A2 ?_))))))
 ·rw [bk.2,beq_self_eq_true,x4,beq_self_eq_true] at e; cases e
 have fv:∀ v:Int,A3 f v "imm" = immV f v:=fun v=>rfl
 refine AR (A1 (asQ n g c q B U X S f hf) (AD (by omega) (AD rfl (AD (fun _=>⟨hb,rfl,hb,rfl,trivial⟩) (BN (fun e=>?_) fun _=>AK (A2 ?_))))))
 ·rw [x5,fv,beq_self_eq_true,beq_self_eq_true] at e; cases e
 refine AR (A1 (asR n g c q B U X S f hf) (AK (A2 ?_)))
 refine AR (A1 (asS n g c q B U X S f hf) (AK (A2 ?_)))
 refine AR (A1 (asT n g c q B U X S f hf) (AK (A2 ?_)))
 refine AR (XI (v:=.lst (XW f q)) (items:=.num (DJ f - 1) :: aiJ f q) (by kernel_rfl) (alL n g c q B U X S f hf) (UR q f hf) rfl ?_)
 have ed:=atC n g c q B U X S f hf
 have rm:=Y2 f hf
 have m0:((DJ f - 1,false):Int×Bool)∈DX f++D4 f:=by unfold DX; simp
 have num:∀ p∈DX f++D4 f,EdgeF n f (G3 f g (.num p.1)) (.num p.1) p.2:=fun p hp=>by
  rw [← rm p hp]
  exact LP hf Rw r rfl ⟨false,rfl⟩ rfl
 refine DH (alN n f g c q B U X _) (A1 ((M7 ed _ m0).1) (SB (num _ m0) (DA ?_)))
 refine QH (I:=fun env sl=>sl=S∧∃ o h e,env=ET n f g c q B U X o h e) (fun x' hx' env sl hi=>?_) (fun env sl hi=>?_) ⟨rfl,_,_,_,rfl⟩
 ·(refine ob02 hi ?_; clear hi; intro hs ζ1; refine ob31 ζ1 ?_; clear ζ1; intro o h e he)
  subst hs he
  refine ⟨_,ahI n f g c q B U X o h x' e,?_⟩
  rcases Y4 hx' with hz | ⟨p,hp,hz⟩
  ·subst hz
   refine A1 (fars n g c q B U X sl f hf o h) (AD (fun _=>trivial) (AD (fun _=>⟨rfl,trivial⟩) (abQ (LP hf Rw r rfl ⟨true,rfl⟩ rfl) ⟨rfl,_,_,_,rfl⟩)))
  ·subst hz
   exact A1 ((M7 ed p hp).2 o h) (SB (num p hp) ⟨rfl,_,_,_,rfl⟩)
 ·(refine ob02 hi ?_; clear hi; intro hs ζ1; refine ob31 ζ1 ?_; clear ζ1; intro o h e he)
  subst hs he
  have dr:=A6 (atO r f hf Rw)
  have dq:refR n (A4 f g "imm")=refX [.str n,A4 f g "imm"]:=by
   show refX [sy (.str n),sy (A4 f g "imm")]=_
   rw [abP]; rfl
  refine A2 (A1 (alO n g c q B U X o h e sl f hf) (AD (by rw [dq]; exact dr.1) (AK ?_)))
  rw [dq,dr.2,← hS]
  exact abR rfl rfl rfl
end
end Mine
end
section
open PySem.SeqAt MineH
namespace Mine
section
variable {prog:Program} {w:World} {h:Heap}
def NumP (l:List Int) (a j:Int) (n f:Str) (dr fl:AV):Prop:=∃ x y z d s t g,f∈AB∧RowOk n f x y z∧RegOk g d s t∧hrF f (g "imm")=true∧dr=drF f∧fl=AI f g∧(0≤a∧a<999)∧l.length<1000∧(0≤j∧j<2147483648)
noncomputable def numS:List AV→List AV→R (List AV×AV):=fun items args=>WY items fun l a j=>G8 a fun a=>G8 j fun j=>eAny args fun n r=>EB n fun n=>eAny r fun f r=>EB f fun f=>eAny r fun dr r=>eOne r fun fl=>
 .need (NumP l a j n f dr fl) (.ret (KA l (a+1+1) (BI l (a+1) (BI l a j)),.sb true))
theorem US (x l:List AV):NoExc (numS x l):=MW fun _ _ _=>CX fun _=>CX fun _=>CP fun _ _=>GB fun _=>CP fun _ _=>GB fun _=>CP fun _ _=>C4 fun _=>trivial
theorem abS (items args:List AV) (P:List AV×AV→Prop) (hh:(numS items args).Holds P False):(MP c31 3 60 (AC 45) (AE 45) "well" ["name","form","drawing","fields"] items args).Holds P False:=by
 refine MV hh fun l a' j' ei hh=>CL hh fun a ea hh=>CL hh fun j ej hh=>CO hh fun n' r en hh=>C8 hh fun n en' hh=>CO hh fun f' r' ef hh=>C8 hh fun f ef' hh=>CO hh fun dr r'' ed hh=>C3 hh fun fl el hh=>?_
 rw [ei,ea,ej,en,en',ef,ef',ed,el]
 ·have hq:NumP l a j n f dr fl∧P (KA l (a+1+1) (BI l (a+1) (BI l a j)),.sb true):=hh
  (refine ob51 hq.1 fun x y z d s ζ1=>?_; refine ob27 ζ1 ?_; clear ζ1; intro t g hf Rw r hr e1 e2 ζ2; refine ob03 ζ2 ?_; clear ζ2; intro h1 h2 h3)
  rw [e1,e2]
  exact (C5 (Y5 hf Rw r hr h1 h2 h3) fun p e=>by rw [e]; exact hq.2).out
def c32:Ctx:={ c31 with wfuns:=("_law_is_number_right",⟨3,numS⟩) :: c31.wfuns }
theorem aoN (X:(Kx w.params).In h) (lim:h.NoLimit):GOK prog w c32 h:=MT (alK X lim) (BZ X (by kernel_rfl)) ⟨o645 w.params,_,X 645 _ (by kernel_rfl),rfl⟩ ((PX (d45 X lim) (alK X lim) rfl 60).weaken abS) US
abbrev RowX:=Str×Str×Nat×Nat×Nat
def NT (f:Str):List RowX:=rowsX.filter fun r=>r.2.1==f
noncomputable def xyzA (x y z:Int):AV:=.dS ["x","y","z"] [.num x,.num y,.num z]
def rowV (r:RowX):AV:=.tup [.str r.1,.str r.2.1,xyzA (r.2.2.1:Nat) (r.2.2.2.1:Nat) (r.2.2.2.2:Nat)]
def QR (f:Str):AV:=.lst ((NT f).map rowV)
def lenR (f:Str):Int:=((NT f).length:Nat)
def Y6 (f:Str):Int:=match memS f AB with | true=>(match f==("U" : Str)||f==("J" : Str) with | true=>20 | false=>match f==("H" : Str) with | true=>5 | false=>match f==("F" : Str) with | true=>8 | false=>12) | false=>0
noncomputable def QT (f:Str):Int:=match f==("B" : Str)||f==("J" : Str) with | true=>2 | false=>1
def F0 (f:Str):AEnv:=[("well",.loc 0),("form",.str f),("drawing",drF f),("rows",QR f)]
def F1 (f:Str) (u0 u1 u2 u3:Int):AEnv:=("two",.sym u3) :: ("one",.sym u2) :: ("rd",.sym u1) :: ("which",.sym u0) :: F0 f
def F1b (f:Str) (u0 u1 u2 u3 v:Int):AEnv:=("value",.sym v) :: F1 f u0 u1 u2 u3
def FB (f:Str) (u0 u1 u2 u3:Int):AEnv:=[("two",.sym u3),("one",.sym u2),("rd",.sym u1),("which",.sym u0),("well",.loc 0),("drawing",drF f),("rows",QR f)]
def F2 (n f:Str) (x y z u0 u1 u2 u3 v:Int):AEnv:=("fixed",xyzA x y z) :: ("form",.str f) :: ("name",.str n) :: ("value",.sym v) :: FB f u0 u1 u2 u3
def F3 (n f:Str) (x y z u0 u1 u2 u3 v:Int):AEnv:=("pace",.num (QT f)) :: ("count",.num (Y6 f)) :: F2 n f x y z u0 u1 u2 u3 v
def F4 (n f:Str) (x y z u0 u1 u2 u3 v:Int):AEnv:=("value",.sym v) :: ("pace",.num (QT f)) :: ("count",.num (Y6 f)) :: ("fixed",xyzA x y z) :: ("form",.str f) :: ("name",.str n) :: FB f u0 u1 u2 u3
abbrev GQ (k i:Nat) (env:AEnv) (sl:SL):RS:=IK c32 4 k (AC 46) (BQ c32 4 (AC 46) k) env (stAt (AE 46) i) sl
def m0 (l:List Int) (a s:Int) (f:Str):Int:=B4 l a s
theorem atT (l:List Int) (a s:Int):∀ f∈formsL,GQ 59 0 (F0 f) (IN l a s)=.need (O3 l a s [lenR f,32,32,32])
  (.ret (.nxt,F1 f ((B4 l a s).fmod (lenR f)) (((B4 l a s).fdiv (lenR f)).fmod 32) ((((B4 l a s).fdiv (lenR f)).fdiv 32).fmod 32) (((((B4 l a s).fdiv (lenR f)).fdiv 32).fdiv 32).fmod 32),IN l (a+1) (BI l a s))):=
 by9 (by kernel_rfl) (by kernel_rfl) (by kernel_rfl) (by kernel_rfl) (by kernel_rfl) (by kernel_rfl) (by kernel_rfl) (by kernel_rfl) (by kernel_rfl)
theorem atU (f:Str) (u0 u1 u2 u3:Int) (l:List Int) (a s:Int):GQ 58 1 (F1 f u0 u1 u2 u3) (IN l a s)=.need (O3 l a s [Mx]) (.ret (.nxt,F1b f u0 u1 u2 u3 ((B4 l a s).fmod Mx),IN l (a+1) (BI l a s))):=by kernel_rfl
noncomputable def SD (wh:Int) (K:RowX→RS):Nat→List RowX→RS
 | _,[]=>.fail
 | k,r :: l=>.ite (decide (wh=k)) (K r) (SD wh K (k+1) l)
theorem atV (u0 u1 u2 u3 v:Int) (sl:SL):∀ f∈formsL,GQ 57 2 (F1b f u0 u1 u2 u3 v) sl=SD u0 (fun r=>.ret (.nxt,F2 r.1 f (r.2.2.1:Nat) (r.2.2.2.1:Nat) (r.2.2.2.2:Nat) u0 u1 u2 u3 v,sl)) 0 (NT f):=
 by9 (by kernel_rfl) (by kernel_rfl) (by kernel_rfl) (by kernel_rfl) (by kernel_rfl) (by kernel_rfl) (by kernel_rfl) (by kernel_rfl) (by kernel_rfl)
theorem atW (n:Str) (x y z u0 u1 u2 u3 v:Int) (sl:SL):∀ f∈formsL,GQ 56 3 (F2 n f x y z u0 u1 u2 u3 v) sl=.ret (.nxt,F3 n f x y z u0 u1 u2 u3 v,sl):=
 by9 (by kernel_rfl) (by kernel_rfl) (by kernel_rfl) (by kernel_rfl) (by kernel_rfl) (by kernel_rfl) (by kernel_rfl) (by kernel_rfl) (by kernel_rfl)
def powF (f:Str):Int:=1*2 ^ (Y6 f).toNat
theorem atX (n:Str) (x y z u0 u1 u2 u3 v:Int) (sl:SL):∀ f∈formsL,GQ 55 4 (F3 n f x y z u0 u1 u2 u3 v) sl=.need ((v.fmod (powF f)).natAbs<2 ^ 64) (.ret (.nxt,F4 n f x y z u0 u1 u2 u3 (v.fmod (powF f)*QT f),sl)):=
 by9 (by kernel_rfl) (by kernel_rfl) (by kernel_rfl) (by kernel_rfl) (by kernel_rfl) (by kernel_rfl) (by kernel_rfl) (by kernel_rfl) (by kernel_rfl)
def NU (f:Str) (v:Int):Int:=match memS f ["I","S","B","J"] with | true=>v - (QT f*powF f).fdiv 2 | false=>v
theorem atY (n:Str) (x y z u0 u1 u2 u3 v:Int) (sl:SL):∀ f∈formsL,GQ 54 5 (F4 n f x y z u0 u1 u2 u3 v) sl=.ret (.nxt,F4 n f x y z u0 u1 u2 u3 (NU f v),sl):=
 by9 (by kernel_rfl) (by kernel_rfl) (by kernel_rfl) (by kernel_rfl) (by kernel_rfl) (by kernel_rfl) (by kernel_rfl) (by kernel_rfl) (by kernel_rfl)
noncomputable def O7 (x y z d s t v:Int):AV:=.dS ["x","y","z","d","s","t","i"] [.num x,.num y,.num z,.sym d,.sym s,.sym t,.sym v]
def F6 (n f:Str) (x y z u0 u1 u2 u3 v:Int):AEnv:=("known",.loc 1) :: F4 n f x y z u0 u1 u2 u3 v
theorem atZ (n f:Str) (x y z u0 u1 u2 u3 v:Int) (W:List AV):GQ 53 6 (F4 n f x y z u0 u1 u2 u3 v) [.own (.lst W)]=.ret (.nxt,F6 n f x y z u0 u1 u2 u3 v,[.own (.lst W),.own (O7 x y z u1 u2 u3 v)]):=by kernel_rfl
noncomputable def gF (d s t v:Int):Str→Int:=fun k=>match k==("rd" : Str) with | true=>d | false=>match k==("rs1" : Str) with | true=>s | false=>match k==("rs2" : Str) with | true=>t | false=>v
def numR (f:Str) (x y z d s t v:Int):R AV:=IM ([drF f,O7 x y z d s t v].map sy)
def F7 (n f:Str) (x y z u0 u1 u2 u3 v N:Int):AEnv:=("number",.sym N) :: ("fields",AI f (gF u1 u2 u3 v)) :: F6 n f x y z u0 u1 u2 u3 v
def sl7 (W:List AV) (x y z d s t v:Int):SL:=[.own (.lst W),.frz (O7 x y z d s t v)]
theorem auA (n:Str) (x y z u0 u1 u2 u3 v:Int) (W:List AV):∀ f∈formsL,GQ 52 7 (F6 n f x y z u0 u1 u2 u3 v) [.own (.lst W),.own (O7 x y z u1 u2 u3 v)] =
  .need (okI (numR f x y z u1 u2 u3 v)) (.ret (.nxt,F7 n f x y z u0 u1 u2 u3 v (valI (numR f x y z u1 u2 u3 v)),sl7 W x y z u1 u2 u3 v)):=
 by9 (by kernel_rfl) (by kernel_rfl) (by kernel_rfl) (by kernel_rfl) (by kernel_rfl) (by kernel_rfl) (by kernel_rfl) (by kernel_rfl) (by kernel_rfl)
theorem auB (n:Str) (x y z u0 u1 u2 u3 v N:Int) (sl:SL):∀ f∈formsL,GQ 51 8 (F7 n f x y z u0 u1 u2 u3 v N) sl =
  .need (okI (encR n (AI f (gF u1 u2 u3 v)))) (.need (true=true) (.need ((!(valI (encR n (AI f (gF u1 u2 u3 v)))==N))=false→(0≤N∧N<4294967296)∧decP N n (AI f (gF u1 u2 u3 v))∧True)
   (.ite ((!(valI (encR n (AI f (gF u1 u2 u3 v)))==N))||decB N n (AI f (gF u1 u2 u3 v))) (retF (F7 n f x y z u0 u1 u2 u3 v N) sl) (.ret (.nxt,F7 n f x y z u0 u1 u2 u3 v N,sl))))):=
 by9 (by kernel_rfl) (by kernel_rfl) (by kernel_rfl) (by kernel_rfl) (by kernel_rfl) (by kernel_rfl) (by kernel_rfl) (by kernel_rfl) (by kernel_rfl)
end
end Mine
end
section
open PySem.SeqAt MineH
namespace Mine
section
variable {prog:Program} {w:World} {h:Heap}
def avK (f:Str):List Str:=(AZ f).filter fun k=>!(k==("imm" : Str))
def aoO (f:Str) (g:Str→Int) (key:Str) (i:Int):AV:=.dS ((AZ f).filter (fun k=>!(k==key))++[key]) (((AZ f).filter fun k=>!(k==key)).map (fun k=>.sym (g k))++[.num i])
def objW (f:Str) (g:Str→Int) (p:Str×AV):AV:=match p.2 with | .num i=>aoO f g p.1 i | _=>A4 f g p.1
noncomputable def illA:AV:=.lst [.none,.num 32,.num (-1)]
def BY (f:Str):List (Str×AV):=match f==("R" : Str) with
 | true=>[("rd",.none),("rd",.num 32),("rd",.num (-1)),("rs1",.none),("rs1",.num 32),("rs1",.num (-1)),("rs2",.none),("rs2",.num 32),("rs2",.num (-1))]
 | false=>match memS f ["I","H"] with
  | true=>[("rd",.none),("rd",.num 32),("rd",.num (-1)),("rs1",.none),("rs1",.num 32),("rs1",.num (-1))]
  | false=>match memS f ["S","B"] with
   | true=>[("rs1",.none),("rs1",.num 32),("rs1",.num (-1)),("rs2",.none),("rs2",.num 32),("rs2",.num (-1))]
   | false=>match memS f ["U","J"] with
    | true=>[("rd",.none),("rd",.num 32),("rd",.num (-1))]
    | false=>[]
def F9 (f:Str) (B:AEnv):AEnv:=match f==("R" : Str) with
 | true=>("wrong",.num (-1)) :: ("ill",illA) :: ("key",.str "rs2") :: B
 | false=>match f==("F" : Str) with
  | true=>("ill",.lst []) :: ("key",.str "imm") :: B
  | false=>match f==("E" : Str) with
   | true=>B
   | false=>("ill",.lst []) :: ("key",.str "imm") :: ("wrong",.num (-1)) :: B
noncomputable def aiK (n f:Str) (g:Str→Int) (B:AEnv) (sl:SL):List (Str×AV)→RS
 | []=>.ret (.nxt,F9 f B,sl)
 | p :: l=>.need (okB (refR n (objW f g p))) (.ite (!valB (refR n (objW f g p))) (retF (("wrong",p.2) :: ("ill",illA) :: ("key",.str p.1) :: B) sl) (aiK n f g B sl l))
theorem auC (n:Str) (x y z u0 u1 u2 u3 v N:Int) (sl:SL):∀ f∈formsL,GQ 50 9 (F7 n f x y z u0 u1 u2 u3 v N) sl=aiK n f (gF u1 u2 u3 v) (F7 n f x y z u0 u1 u2 u3 v N) sl (BY f):=
 by9 (by kernel_rfl) (by kernel_rfl) (by kernel_rfl) (by kernel_rfl) (by kernel_rfl) (by kernel_rfl) (by kernel_rfl) (by kernel_rfl) (by kernel_rfl)
def sl8 (l:List Int) (a s:Int) (x y z d t q v:Int):SL:=sl7 (KA l a s) x y z d t q v
theorem aoP (n:Str) (x y z u0 u1 u2 u3 v N:Int) (l:List Int) (a s:Int):∀ f∈AB,BQ c32 4 (AC 46) 50 (F9 f (F7 n f x y z u0 u1 u2 u3 v N)) [stAt (AE 46) 10] (sl8 l a s x y z u1 u2 u3 v) =
  .need (NumP l a s n f (drF f) (AI f (gF u1 u2 u3 v))) (.ret (.ret (.sb true),F9 f (F7 n f x y z u0 u1 u2 u3 v N),sl8 l (a+1+1) (BI l (a+1) (BI l a s)) x y z u1 u2 u3 v)):=
 by7 (by kernel_rfl) (by kernel_rfl) (by kernel_rfl) (by kernel_rfl) (by kernel_rfl) (by kernel_rfl) (by kernel_rfl)
theorem aiL (n:Str) (x y z u0 u1 u2 u3 v N:Int) (sl:SL):∀ f∈(["R","E"]:List Str),BQ c32 4 (AC 46) 50 (F9 f (F7 n f x y z u0 u1 u2 u3 v N)) [stAt (AE 46) 10] sl=.ret (.ret (.bool true),F9 f (F7 n f x y z u0 u1 u2 u3 v N),sl):=by
 intro f hf
 simp only [List.mem_cons,List.not_mem_nil,or_false] at hf
 rcases hf with q | q<;>rw [q]<;>kernel_rfl
theorem aoQ:AE 46=[stAt (AE 46) 0,stAt (AE 46) 1,stAt (AE 46) 2,stAt (AE 46) 3,stAt (AE 46) 4,stAt (AE 46) 5,stAt (AE 46) 6,stAt (AE 46) 7,stAt (AE 46) 8,stAt (AE 46) 9,stAt (AE 46) 10]:=by kernel_rfl
end
end Mine
end
section
open PySem.SeqAt MineH
namespace Mine
section
variable {prog:Program} {w:World} {h:Heap}
noncomputable def updK (g:Str→Int) (key:Str) (i:Int):Str→Int:=fun k=>match k==key with | true=>i | false=>g k
theorem O8 {n:Str} {x y z:Nat} (Rw:RowOk n "R" x y z) (g:Str→Int) {i:Int} (hi:¬ (0≤i∧i<32)):okB (refR n (objW "R" g ("rd",.num i)))∧valB (refR n (objW "R" g ("rd",.num i)))=true:=by
 have e:refR n (objW "R" g ("rd",.num i))=refX [.str n,A5 "R" (updK g "rd" i) "rd"]:=by kernel_rfl
 have q:updK g "rd" i "rd" = i:=by kernel_rfl
 rw [e]
 exact A6 (NI Rw _ (by rw [q]; exact hi))
theorem Y7 {n:Str} {x y z:Nat} (Rw:RowOk n "R" x y z) (g:Str→Int):okB (refR n (objW "R" g ("rd",.none)))∧valB (refR n (objW "R" g ("rd",.none)))=true:=by
 have e:refR n (objW "R" g ("rd",.none))=refX [.str n,A4 "R" g "rd"]:=by kernel_rfl
 rw [e]
 exact A6 (NJ Rw g)
theorem LQ {n:Str} {x y z:Nat} (Rw:RowOk n "R" x y z) (g:Str→Int) {i:Int} (hi:¬ (0≤i∧i<32)):okB (refR n (objW "R" g ("rs1",.num i)))∧valB (refR n (objW "R" g ("rs1",.num i)))=true:=by
 have e:refR n (objW "R" g ("rs1",.num i))=refX [.str n,A5 "R" (updK g "rs1" i) "rs1"]:=by kernel_rfl
 have q:updK g "rs1" i "rs1" = i:=by kernel_rfl
 rw [e]
 exact A6 (KB Rw _ (by rw [q]; exact hi))
theorem UT {n:Str} {x y z:Nat} (Rw:RowOk n "R" x y z) (g:Str→Int):okB (refR n (objW "R" g ("rs1",.none)))∧valB (refR n (objW "R" g ("rs1",.none)))=true:=by
 have e:refR n (objW "R" g ("rs1",.none))=refX [.str n,A4 "R" g "rs1"]:=by kernel_rfl
 rw [e]
 exact A6 (KC Rw g)
theorem LR {n:Str} {x y z:Nat} (Rw:RowOk n "R" x y z) (g:Str→Int) {i:Int} (hi:¬ (0≤i∧i<32)):okB (refR n (objW "R" g ("rs2",.num i)))∧valB (refR n (objW "R" g ("rs2",.num i)))=true:=by
 have e:refR n (objW "R" g ("rs2",.num i))=refX [.str n,A5 "R" (updK g "rs2" i) "rs2"]:=by kernel_rfl
 have q:updK g "rs2" i "rs2" = i:=by kernel_rfl
 rw [e]
 exact A6 (KD Rw _ (by rw [q]; exact hi))
theorem UU {n:Str} {x y z:Nat} (Rw:RowOk n "R" x y z) (g:Str→Int):okB (refR n (objW "R" g ("rs2",.none)))∧valB (refR n (objW "R" g ("rs2",.none)))=true:=by
 have e:refR n (objW "R" g ("rs2",.none))=refX [.str n,A4 "R" g "rs2"]:=by kernel_rfl
 rw [e]
 exact A6 (KE Rw g)
theorem aoR {n:Str} {x y z:Nat} (Rw:RowOk n "R" x y z) (g:Str→Int):∀ p∈BY "R",okB (refR n (objW "R" g p))∧valB (refR n (objW "R" g p))=true:=by
 intro p hp
 rw [show BY "R" = ([("rd",.none),("rd",.num 32),("rd",.num (-1)),("rs1",.none),("rs1",.num 32),("rs1",.num (-1)),("rs2",.none),("rs2",.num 32),("rs2",.num (-1))]:List (Str×AV)) by kernel_rfl] at hp
 simp only [List.mem_cons,List.not_mem_nil,or_false] at hp
 rcases hp with q | q | q | q | q | q | q | q | q<;>rw [q]
 ·exact Y7 Rw g
 ·exact O8 Rw g (by decide)
 ·exact O8 Rw g (by decide)
 ·exact UT Rw g
 ·exact LQ Rw g (by decide)
 ·exact LQ Rw g (by decide)
 ·exact UU Rw g
 ·exact LR Rw g (by decide)
 ·exact LR Rw g (by decide)
theorem O9 {n:Str} {x y z:Nat} (Rw:RowOk n "I" x y z) (g:Str→Int) {i:Int} (hi:¬ (0≤i∧i<32)):okB (refR n (objW "I" g ("rd",.num i)))∧valB (refR n (objW "I" g ("rd",.num i)))=true:=by
 have e:refR n (objW "I" g ("rd",.num i))=refX [.str n,A5 "I" (updK g "rd" i) "rd"]:=by kernel_rfl
 have q:updK g "rd" i "rd" = i:=by kernel_rfl
 rw [e]
 exact A6 (NK Rw _ (by rw [q]; exact hi))
theorem Y8 {n:Str} {x y z:Nat} (Rw:RowOk n "I" x y z) (g:Str→Int):okB (refR n (objW "I" g ("rd",.none)))∧valB (refR n (objW "I" g ("rd",.none)))=true:=by
 have e:refR n (objW "I" g ("rd",.none))=refX [.str n,A4 "I" g "rd"]:=by kernel_rfl
 rw [e]
 exact A6 (NL Rw g)
theorem LS {n:Str} {x y z:Nat} (Rw:RowOk n "I" x y z) (g:Str→Int) {i:Int} (hi:¬ (0≤i∧i<32)):okB (refR n (objW "I" g ("rs1",.num i)))∧valB (refR n (objW "I" g ("rs1",.num i)))=true:=by
 have e:refR n (objW "I" g ("rs1",.num i))=refX [.str n,A5 "I" (updK g "rs1" i) "rs1"]:=by kernel_rfl
 have q:updK g "rs1" i "rs1" = i:=by kernel_rfl
 rw [e]
 exact A6 (KF Rw _ (by rw [q]; exact hi))
theorem UV {n:Str} {x y z:Nat} (Rw:RowOk n "I" x y z) (g:Str→Int):okB (refR n (objW "I" g ("rs1",.none)))∧valB (refR n (objW "I" g ("rs1",.none)))=true:=by
 have e:refR n (objW "I" g ("rs1",.none))=refX [.str n,A4 "I" g "rs1"]:=by kernel_rfl
 rw [e]
 exact A6 (KG Rw g)
theorem aoS {n:Str} {x y z:Nat} (Rw:RowOk n "I" x y z) (g:Str→Int):∀ p∈BY "I",okB (refR n (objW "I" g p))∧valB (refR n (objW "I" g p))=true:=by
 intro p hp
 rw [show BY "I" = ([("rd",.none),("rd",.num 32),("rd",.num (-1)),("rs1",.none),("rs1",.num 32),("rs1",.num (-1))]:List (Str×AV)) by kernel_rfl] at hp
 simp only [List.mem_cons,List.not_mem_nil,or_false] at hp
 rcases hp with q | q | q | q | q | q<;>rw [q]
 ·exact Y8 Rw g
 ·exact O9 Rw g (by decide)
 ·exact O9 Rw g (by decide)
 ·exact UV Rw g
 ·exact LS Rw g (by decide)
 ·exact LS Rw g (by decide)
theorem PA {n:Str} {x y z:Nat} (Rw:RowOk n "H" x y z) (g:Str→Int) {i:Int} (hi:¬ (0≤i∧i<32)):okB (refR n (objW "H" g ("rd",.num i)))∧valB (refR n (objW "H" g ("rd",.num i)))=true:=by
 have e:refR n (objW "H" g ("rd",.num i))=refX [.str n,A5 "H" (updK g "rd" i) "rd"]:=by kernel_rfl
 have q:updK g "rd" i "rd" = i:=by kernel_rfl
 rw [e]
 exact A6 (NM Rw _ (by rw [q]; exact hi))
theorem Y9 {n:Str} {x y z:Nat} (Rw:RowOk n "H" x y z) (g:Str→Int):okB (refR n (objW "H" g ("rd",.none)))∧valB (refR n (objW "H" g ("rd",.none)))=true:=by
 have e:refR n (objW "H" g ("rd",.none))=refX [.str n,A4 "H" g "rd"]:=by kernel_rfl
 rw [e]
 exact A6 (NN Rw g)
theorem LT {n:Str} {x y z:Nat} (Rw:RowOk n "H" x y z) (g:Str→Int) {i:Int} (hi:¬ (0≤i∧i<32)):okB (refR n (objW "H" g ("rs1",.num i)))∧valB (refR n (objW "H" g ("rs1",.num i)))=true:=by
 have e:refR n (objW "H" g ("rs1",.num i))=refX [.str n,A5 "H" (updK g "rs1" i) "rs1"]:=by kernel_rfl
 have q:updK g "rs1" i "rs1" = i:=by kernel_rfl
 rw [e]
 exact A6 (KI Rw _ (by rw [q]; exact hi))
theorem UW {n:Str} {x y z:Nat} (Rw:RowOk n "H" x y z) (g:Str→Int):okB (refR n (objW "H" g ("rs1",.none)))∧valB (refR n (objW "H" g ("rs1",.none)))=true:=by
 have e:refR n (objW "H" g ("rs1",.none))=refX [.str n,A4 "H" g "rs1"]:=by kernel_rfl
 rw [e]
 exact A6 (KJ Rw g)
theorem aoT {n:Str} {x y z:Nat} (Rw:RowOk n "H" x y z) (g:Str→Int):∀ p∈BY "H",okB (refR n (objW "H" g p))∧valB (refR n (objW "H" g p))=true:=by
 intro p hp
 rw [show BY "H" = ([("rd",.none),("rd",.num 32),("rd",.num (-1)),("rs1",.none),("rs1",.num 32),("rs1",.num (-1))]:List (Str×AV)) by kernel_rfl] at hp
 simp only [List.mem_cons,List.not_mem_nil,or_false] at hp
 rcases hp with q | q | q | q | q | q<;>rw [q]
 ·exact Y9 Rw g
 ·exact PA Rw g (by decide)
 ·exact PA Rw g (by decide)
 ·exact UW Rw g
 ·exact LT Rw g (by decide)
 ·exact LT Rw g (by decide)
theorem LU {n:Str} {x y z:Nat} (Rw:RowOk n "S" x y z) (g:Str→Int) {i:Int} (hi:¬ (0≤i∧i<32)):okB (refR n (objW "S" g ("rs1",.num i)))∧valB (refR n (objW "S" g ("rs1",.num i)))=true:=by
 have e:refR n (objW "S" g ("rs1",.num i))=refX [.str n,A5 "S" (updK g "rs1" i) "rs1"]:=by kernel_rfl
 have q:updK g "rs1" i "rs1" = i:=by kernel_rfl
 rw [e]
 exact A6 (KL Rw _ (by rw [q]; exact hi))
theorem UX {n:Str} {x y z:Nat} (Rw:RowOk n "S" x y z) (g:Str→Int):okB (refR n (objW "S" g ("rs1",.none)))∧valB (refR n (objW "S" g ("rs1",.none)))=true:=by
 have e:refR n (objW "S" g ("rs1",.none))=refX [.str n,A4 "S" g "rs1"]:=by kernel_rfl
 rw [e]
 exact A6 (KM Rw g)
theorem LV {n:Str} {x y z:Nat} (Rw:RowOk n "S" x y z) (g:Str→Int) {i:Int} (hi:¬ (0≤i∧i<32)):okB (refR n (objW "S" g ("rs2",.num i)))∧valB (refR n (objW "S" g ("rs2",.num i)))=true:=by
 have e:refR n (objW "S" g ("rs2",.num i))=refX [.str n,A5 "S" (updK g "rs2" i) "rs2"]:=by kernel_rfl
 have q:updK g "rs2" i "rs2" = i:=by kernel_rfl
 rw [e]
 exact A6 (KN Rw _ (by rw [q]; exact hi))
theorem UY {n:Str} {x y z:Nat} (Rw:RowOk n "S" x y z) (g:Str→Int):okB (refR n (objW "S" g ("rs2",.none)))∧valB (refR n (objW "S" g ("rs2",.none)))=true:=by
 have e:refR n (objW "S" g ("rs2",.none))=refX [.str n,A4 "S" g "rs2"]:=by kernel_rfl
 rw [e]
 exact A6 (KO Rw g)
theorem aoU {n:Str} {x y z:Nat} (Rw:RowOk n "S" x y z) (g:Str→Int):∀ p∈BY "S",okB (refR n (objW "S" g p))∧valB (refR n (objW "S" g p))=true:=by
 intro p hp
 rw [show BY "S" = ([("rs1",.none),("rs1",.num 32),("rs1",.num (-1)),("rs2",.none),("rs2",.num 32),("rs2",.num (-1))]:List (Str×AV)) by kernel_rfl] at hp
 simp only [List.mem_cons,List.not_mem_nil,or_false] at hp
 rcases hp with q | q | q | q | q | q<;>rw [q]
 ·exact UX Rw g
 ·exact LU Rw g (by decide)
 ·exact LU Rw g (by decide)
 ·exact UY Rw g
 ·exact LV Rw g (by decide)
 ·exact LV Rw g (by decide)
theorem LW {n:Str} {x y z:Nat} (Rw:RowOk n "B" x y z) (g:Str→Int) {i:Int} (hi:¬ (0≤i∧i<32)):okB (refR n (objW "B" g ("rs1",.num i)))∧valB (refR n (objW "B" g ("rs1",.num i)))=true:=by
 have e:refR n (objW "B" g ("rs1",.num i))=refX [.str n,A5 "B" (updK g "rs1" i) "rs1"]:=by kernel_rfl
 have q:updK g "rs1" i "rs1" = i:=by kernel_rfl
 rw [e]
 exact A6 (KQ Rw _ (by rw [q]; exact hi))
theorem UZ {n:Str} {x y z:Nat} (Rw:RowOk n "B" x y z) (g:Str→Int):okB (refR n (objW "B" g ("rs1",.none)))∧valB (refR n (objW "B" g ("rs1",.none)))=true:=by
 have e:refR n (objW "B" g ("rs1",.none))=refX [.str n,A4 "B" g "rs1"]:=by kernel_rfl
 rw [e]
 exact A6 (KR Rw g)
theorem LX {n:Str} {x y z:Nat} (Rw:RowOk n "B" x y z) (g:Str→Int) {i:Int} (hi:¬ (0≤i∧i<32)):okB (refR n (objW "B" g ("rs2",.num i)))∧valB (refR n (objW "B" g ("rs2",.num i)))=true:=by
 have e:refR n (objW "B" g ("rs2",.num i))=refX [.str n,A5 "B" (updK g "rs2" i) "rs2"]:=by kernel_rfl
 have q:updK g "rs2" i "rs2" = i:=by kernel_rfl
 rw [e]
 exact A6 (KS Rw _ (by rw [q]; exact hi))
theorem U8 {n:Str} {x y z:Nat} (Rw:RowOk n "B" x y z) (g:Str→Int):okB (refR n (objW "B" g ("rs2",.none)))∧valB (refR n (objW "B" g ("rs2",.none)))=true:=by
 have e:refR n (objW "B" g ("rs2",.none))=refX [.str n,A4 "B" g "rs2"]:=by kernel_rfl
 rw [e]
 exact A6 (KT Rw g)
theorem aoV {n:Str} {x y z:Nat} (Rw:RowOk n "B" x y z) (g:Str→Int):∀ p∈BY "B",okB (refR n (objW "B" g p))∧valB (refR n (objW "B" g p))=true:=by
 intro p hp
 rw [show BY "B" = ([("rs1",.none),("rs1",.num 32),("rs1",.num (-1)),("rs2",.none),("rs2",.num 32),("rs2",.num (-1))]:List (Str×AV)) by kernel_rfl] at hp
 simp only [List.mem_cons,List.not_mem_nil,or_false] at hp
 rcases hp with q | q | q | q | q | q<;>rw [q]
 ·exact UZ Rw g
 ·exact LW Rw g (by decide)
 ·exact LW Rw g (by decide)
 ·exact U8 Rw g
 ·exact LX Rw g (by decide)
 ·exact LX Rw g (by decide)
theorem PB {n:Str} {x y z:Nat} (Rw:RowOk n "U" x y z) (g:Str→Int) {i:Int} (hi:¬ (0≤i∧i<32)):okB (refR n (objW "U" g ("rd",.num i)))∧valB (refR n (objW "U" g ("rd",.num i)))=true:=by
 have e:refR n (objW "U" g ("rd",.num i))=refX [.str n,A5 "U" (updK g "rd" i) "rd"]:=by kernel_rfl
 have q:updK g "rd" i "rd" = i:=by kernel_rfl
 rw [e]
 exact A6 (NO Rw _ (by rw [q]; exact hi))
theorem ZA {n:Str} {x y z:Nat} (Rw:RowOk n "U" x y z) (g:Str→Int):okB (refR n (objW "U" g ("rd",.none)))∧valB (refR n (objW "U" g ("rd",.none)))=true:=by
 have e:refR n (objW "U" g ("rd",.none))=refX [.str n,A4 "U" g "rd"]:=by kernel_rfl
 rw [e]
 exact A6 (NP Rw g)
theorem aoW {n:Str} {x y z:Nat} (Rw:RowOk n "U" x y z) (g:Str→Int):∀ p∈BY "U",okB (refR n (objW "U" g p))∧valB (refR n (objW "U" g p))=true:=by
 intro p hp
 rw [show BY "U" = ([("rd",.none),("rd",.num 32),("rd",.num (-1))]:List (Str×AV)) by kernel_rfl] at hp
 simp only [List.mem_cons,List.not_mem_nil,or_false] at hp
 rcases hp with q | q | q<;>rw [q]
 ·exact ZA Rw g
 ·exact PB Rw g (by decide)
 ·exact PB Rw g (by decide)
theorem PC {n:Str} {x y z:Nat} (Rw:RowOk n "J" x y z) (g:Str→Int) {i:Int} (hi:¬ (0≤i∧i<32)):okB (refR n (objW "J" g ("rd",.num i)))∧valB (refR n (objW "J" g ("rd",.num i)))=true:=by
 have e:refR n (objW "J" g ("rd",.num i))=refX [.str n,A5 "J" (updK g "rd" i) "rd"]:=by kernel_rfl
 have q:updK g "rd" i "rd" = i:=by kernel_rfl
 rw [e]
 exact A6 (NQ Rw _ (by rw [q]; exact hi))
theorem ZB {n:Str} {x y z:Nat} (Rw:RowOk n "J" x y z) (g:Str→Int):okB (refR n (objW "J" g ("rd",.none)))∧valB (refR n (objW "J" g ("rd",.none)))=true:=by
 have e:refR n (objW "J" g ("rd",.none))=refX [.str n,A4 "J" g "rd"]:=by kernel_rfl
 rw [e]
 exact A6 (NR Rw g)
theorem aoX {n:Str} {x y z:Nat} (Rw:RowOk n "J" x y z) (g:Str→Int):∀ p∈BY "J",okB (refR n (objW "J" g p))∧valB (refR n (objW "J" g p))=true:=by
 intro p hp
 rw [show BY "J" = ([("rd",.none),("rd",.num 32),("rd",.num (-1))]:List (Str×AV)) by kernel_rfl] at hp
 simp only [List.mem_cons,List.not_mem_nil,or_false] at hp
 rcases hp with q | q | q<;>rw [q]
 ·exact ZB Rw g
 ·exact PC Rw g (by decide)
 ·exact PC Rw g (by decide)
theorem aoY {n:Str} {x y z:Nat} (Rw:RowOk n "F" x y z) (g:Str→Int):∀ p∈BY "F",okB (refR n (objW "F" g p))∧valB (refR n (objW "F" g p))=true:=by
 intro p hp
 rw [show BY "F" = ([]:List (Str×AV)) by kernel_rfl] at hp
 simp only [List.mem_cons,List.not_mem_nil,or_false] at hp
theorem aoZ {n:Str} {x y z:Nat} (Rw:RowOk n "E" x y z) (g:Str→Int):∀ p∈BY "E",okB (refR n (objW "E" g p))∧valB (refR n (objW "E" g p))=true:=by
 intro p hp
 rw [show BY "E" = ([]:List (Str×AV)) by kernel_rfl] at hp
 simp only [List.mem_cons,List.not_mem_nil,or_false] at hp
theorem auD {n:Str} {x y z:Nat} (g:Str→Int):∀ f∈formsL,RowOk n f x y z→∀ p∈BY f,okB (refR n (objW f g p))∧valB (refR n (objW f g p))=true:=
 by9 (fun Rw=>aoR Rw g) (fun Rw=>aoS Rw g) (fun Rw=>aoT Rw g) (fun Rw=>aoU Rw g) (fun Rw=>aoV Rw g) (fun Rw=>aoW Rw g) (fun Rw=>aoX Rw g) (fun Rw=>aoY Rw g) (fun Rw=>aoZ Rw g)
theorem ZC {d s t:Nat} (v:Int) (ld:d<32) (ls:s<32) (lt:t<32):RegOk (gF d s t v) d s t:=
 ⟨by kernel_rfl,by kernel_rfl,by kernel_rfl,ld,ls,lt⟩
theorem HT (d s t v:Int):gF d s t v "imm" = v:=by kernel_rfl
theorem B8 (v:Int) {m:Int} (h:0<m):0≤v.fmod m∧v.fmod m<m:=by
 rw [Int.fmod_eq_emod_of_nonneg _ (Int.le_of_lt h)]
 exact ⟨Int.emod_nonneg _ (Int.ne_of_gt h),Int.emod_lt_of_pos _ h⟩
theorem abT (f:Str) (x:Int):NU f x=x+NU f 0:=by
 unfold NU
 cases memS f ["I","S","B","J"] with
 | true=>exact (congrArg (x+·) (Int.zero_sub _).symm)
 | false=>exact (Int.add_zero x).symm
theorem U9 (v:Int):∀ f∈AB,hrF f (NU f (v.fmod (powF f)*QT f))=true:=by
 have all:∀ f∈AB,(0<powF f∧0<G2 f)∧(QT f=G2 f∧DJ f=NU f 0)∧HQ f=powF f*G2 f+NU f 0∧NU f 0 % G2 f=0:=by decide +kernel
 intro f hf
 refine ob02 (all f hf) fun a b=>ob02 b fun c d=>?_
 have r:=B8 v a.1
 rw [c.1,abT]
 refine (DZ (Int.le_of_lt a.2)).mpr ⟨?_,?_,?_⟩
 ·rw [c.2]
  exact Int.le_add_of_nonneg_left (Int.mul_nonneg r.1 (Int.le_of_lt a.2))
 ·rw [d.1]
  exact Int.add_lt_add_right (Int.mul_lt_mul_of_pos_right r.2 a.2) _
 ·rw [Int.add_comm,Int.add_mul_emod_self_right]
  exact d.2
theorem ZD (v:Int):∀ f∈formsL,(v.fmod (powF f)).natAbs<2 ^ 64:=by
 have one:∀ {x m:Int},(0≤x∧x<m)→m<2 ^ 40→x.natAbs<2 ^ 64:=by omega
 have all:∀ f∈formsL,0<powF f∧powF f<2 ^ 40:=by decide +kernel
 exact fun f hf=>one (B8 v (all f hf).1) (all f hf).2
theorem apA {n:Str} {x y z d s t:Nat} {v:Int} (ld:d<32) (ls:s<32) (lt:t<32):∀ f∈formsL,RowOk n f x y z→(f∈AB→hrF f v=true)→HX (encX [.str n,AI f (gF d s t v)]) (fun av=>∃ b,BF av=some (((AG f x y z d s t v:Nat):Int),b)) False:=by
 have r:=ZC v ld ls lt
 have im:∀ f∈AB,RowOk n f x y z→(f∈AB→hrF f v=true)→HX (encX [.str n,AI f (gF d s t v)]) (fun av=>∃ b,BF av=some (((AG f x y z d s t v:Nat):Int),b)) False:=fun f hf Rw hr=>by
  have:=YY r f hf Rw (by rw [HT]; exact hr hf)
  rw [show QQ f x y z d s t (gF d s t v)=AG f x y z d s t v by show AG f x y z d s t (gF d s t v "imm")=_; rw [HT]] at this
  exact this
 refine by9 ?_ (im _ (by simp [AB])) (im _ (by simp [AB])) (im _ (by simp [AB])) (im _ (by simp [AB])) (im _ (by simp [AB])) (im _ (by simp [AB])) (im _ (by simp [AB])) ?_<;>intro Rw _
 ·have:=ahP Rw r.hd r.hs r.ht ld ls lt
  rw [HT] at this
  exact this
 ·have:=aiF Rw r.hd r.hs r.ht ld ls lt
  rw [HT] at this
  exact this
theorem apB {x y z d s t:Nat} {v:Int} (ld:d<32) (ls:s<32) (lt:t<32):∀ f∈formsL,AM f x y z→(f∈AB→hrF f v=true)→∀ k∈AZ f,A3 f ((AG f x y z d s t v:Nat):Int) k=gF d s t v k:=by
 have r:=ZC v ld ls lt
 have im:∀ f∈AB,AM f x y z→(f∈AB→hrF f v=true)→∀ k∈AZ f,A3 f ((AG f x y z d s t v:Nat):Int) k=gF d s t v k:=fun f hf hx hr=>by
  have:=aeF r f hf hx (by rw [HT]; exact hr hf)
  rw [show QQ f x y z d s t (gF d s t v)=AG f x y z d s t v by show AG f x y z d s t (gF d s t v "imm")=_; rw [HT]] at this
  exact this
 refine by9 ?_ (im _ (by simp [AB])) (im _ (by simp [AB])) (im _ (by simp [AB])) (im _ (by simp [AB])) (im _ (by simp [AB])) (im _ (by simp [AB])) (im _ (by simp [AB])) ?_<;>intro hx _
 ·have:=ahQ hx r.hd r.hs r.ht ld ls lt
  rw [HT] at this
  exact this
 ·have:=aiG hx r.hd r.hs r.ht ld ls lt
  rw [HT] at this
  exact this
theorem aiM (x y z:Nat) (d s t v:Int):∀ f∈formsL,numR f x y z d s t v=IM [drF f,YD x y z d s t v]:=
 by9 (by kernel_rfl) (by kernel_rfl) (by kernel_rfl) (by kernel_rfl) (by kernel_rfl) (by kernel_rfl) (by kernel_rfl) (by kernel_rfl) (by kernel_rfl)
theorem aiN {x y z d s t:Nat} {v:Int} (ld:d<32) (ls:s<32) (lt:t<32) {f:Str} (hf:f∈formsL) (hx:AM f x y z):okI (numR f x y z d s t v)∧valI (numR f x y z d s t v)=((AG f x y z d s t v:Nat):Int):=by
 refine FL ?_
 rw [aiM x y z d s t v f hf,amF _ _ _ _ _ _ _ f hf,← layG v ld ls lt f hf hx]
 exact NS _ _ 0 0 (by decide) (by decide) (by rw [IW _ _ _ _ _ _ _ f hf]; decide)
theorem JZ {wh:Int} {K:RowX→RS} {P:Fl×AEnv×SL→Prop}:∀ {l:List RowX} {k:Nat},((k:Int)≤wh∧wh<k+l.length)→(∀ r∈l,HX (K r) P False)→HX (SD wh K k l) P False
 | [],k,h,_=>by
  rw [List.length_nil] at h; omega
 | r :: l,k,h,hk=>BN (fun _=>hk r (by simp)) fun e=>JZ (by
  have:=of_decide_eq_false e
  rw [List.length_cons] at h
  omega) fun r' h'=>hk r' (by simp [h'])
theorem SE {n f:Str} {g:Str→Int} {B:AEnv} {sl:SL} {P:Fl×AEnv×SL→Prop} (hP:P (.nxt,F9 f B,sl)):∀ {l:List (Str×AV)},(∀ p∈l,okB (refR n (objW f g p))∧valB (refR n (objW f g p))=true)→HX (aiK n f g B sl l) P False
 | [],_=>AK hP
 | p :: l,h=>by
  have hp:=h p (by simp)
  refine AD hp.1 (BN (fun e=>?_) fun _=>SE hP fun p' h'=>h p' (by simp [h']))
  rw [hp.2] at e; cases e
abbrev apC (f:Str) (l:List Int) (a s:Int):R (List AV×AV):=MP c32 4 60 (AC 46) (AE 46) "well" ["form","drawing","rows"] (KA l a s) [.str f,drF f,QR f]
def outW (f:Str) (l:List Int) (a j:Int):List AV×AV:=match memS f AB with
 | true=>(KA l (a+1+1+1+1) (BI l (a+1+1+1) (BI l (a+1+1) (BI l (a+1) (BI l a j)))),.sb true)
 | false=>(KA l (a+1+1) (BI l (a+1) (BI l a j)),.bool true)
theorem VA:∀ f∈formsL,0<lenR f∧lenR f<50:=by decide +kernel
theorem PD {env:AEnv} {items:List AV} {sl:SL} {v:AV} {P:List AV×AV→Prop} (hv:G7 v=true) (hi:D6 items=true) (hp:P (items,v)):HX (endW (.ret v,env,.own (.lst items) :: sl)) P False:=by
 show HX ((frzE (.own (.lst items) :: sl) v).bind _) P False
 unfold frzE
 rw [hv]
 show HX (match D6 items with | true=>R.ret (items,v) | false=>.fail) P False
 rw [hi]
 exact AK hp
theorem VB {f:Str} (hf:f∈formsL) {l:List Int} {a j:Int} (h1:0≤a∧a<990) (h2:l.length<1000) (h3:0≤j∧j<2147483648):HX (apC f l a j) (fun p=>p=outW f l a j) False:=by
 have j1:=DB l a j h3
 have j2:=DB l (a+1) _ j1
 have ln:=VA f hf
 refine Y3 (by kernel_rfl) ?_
 show HX (BQ c32 4 (AC 46) 60 (F0 f) (AE 46) (IN l a j)) _ False
 rw [aoQ]
 refine AR (A1 (atT l a j f hf) (AD ⟨⟨h1.1,by omega,h2,h3⟩,.inr (.inl rfl),fun n hn=>?_⟩ (AK (A2 ?_))))
 ·simp only [List.mem_cons,List.not_mem_nil,or_false] at hn
  rcases hn with q | q | q | q<;>subst q<;>first | decide | omega
 have w0:=B8 (B4 l a j) ln.1
 have w1:=B8 ((B4 l a j).fdiv (lenR f)) (show (0:Int)<32 by decide)
 have w2:=B8 (((B4 l a j).fdiv (lenR f)).fdiv 32) (show (0:Int)<32 by decide)
 have w3:=B8 ((((B4 l a j).fdiv (lenR f)).fdiv 32).fdiv 32) (show (0:Int)<32 by decide)
 generalize (B4 l a j).fmod (lenR f)=u0 at *
 generalize ((B4 l a j).fdiv (lenR f)).fmod 32=u1 at *
 generalize (((B4 l a j).fdiv (lenR f)).fdiv 32).fmod 32=u2 at *
 generalize ((((B4 l a j).fdiv (lenR f)).fdiv 32).fdiv 32).fmod 32=u3 at *
 (refine ob11 (Int.eq_ofNat_of_zero_le w1.1) fun d ζ1=>?_; subst ζ1)
 (refine ob11 (Int.eq_ofNat_of_zero_le w2.1) fun s ζ1=>?_; subst ζ1)
 (refine ob11 (Int.eq_ofNat_of_zero_le w3.1) fun t ζ1=>?_; subst ζ1)
 have ld:d<32:=by omega
 have ls:s<32:=by omega
 have lt:t<32:=by omega
 refine AR (A1 (atU f u0 d s t l (a+1) (BI l a j)) (AD (O6 ⟨by omega,by omega,h2,j1⟩) (AK (A2 ?_))))
 generalize (B4 l (a+1) (BI l a j)).fmod Mx=v0
 refine AR (A1 (atV u0 d s t v0 _ f hf) (JZ ⟨by omega,by have:lenR f=((NT f).length:Int):=rfl; omega⟩ fun rw hrw=>AK (A2 ?_)))
 obtain ⟨n,f',x,y,z⟩:=rw
 have hm:=List.mem_filter.mp hrw
 have hff:f'=f:=eq_of_beq hm.2
 subst hff
 have Rw:=YX hm.1
 refine AR (A1 (atW n x y z u0 d s t v0 _ f' hf) (AK (A2 ?_)))
 refine AR (A1 (atX n x y z u0 d s t v0 _ f' hf) (AD (ZD v0 f' hf) (AK (A2 ?_))))
 refine AR (A1 (atY n x y z u0 d s t _ _ f' hf) (AK (A2 ?_)))
 have hr:=U9 v0 f'
 generalize NU f' (v0.fmod (powF f')*QT f')=v at *
 refine AR (A1 (atZ n f' x y z u0 d s t v _) (AK (A2 ?_)))
 have nr:=aiN (v:=v) ld ls lt hf Rw.xyz
 refine AR (A1 (auA n x y z u0 d s t v _ f' hf) (AD nr.1 (AK (A2 ?_))))
 rw [nr.2]
 have en:=YB (apA (v:=v) ld ls lt f' hf Rw hr)
 have bk:=apB (v:=v) ld ls lt f' hf Rw.xyz hr
 have hit:=hitG (x:=x) (y:=y) (z:=z) v ld ls lt f' hf Rw.xyz
 have fsy:sy (AI f' (gF d s t v))=AI f' (gF d s t v):=by
  unfold AI
  show AV.dS _ (List.map syV (List.map _ _))=_
  rw [List.map_map]; rfl
 have eE:encR n (AI f' (gF d s t v))=encN [.str n,AI f' (gF d s t v)]:=by
  show encN [sy (.str n),sy (AI f' (gF d s t v))]=_
  rw [fsy]; rfl
 have dq:eqN (und (decV ((AG f' x y z d s t v:Nat):Int) rowsF)) (und (.tup [.str n,AI f' (gF d s t v)]))=some true:=aeG (o:=fun k=>.sym (gF d s t v k)) Rw hit.1 (fun k hk=>⟨true,by rw [bk k hk]; rfl⟩)
 have dP:decP ((AG f' x y z d s t v:Nat):Int) n (AI f' (gF d s t v)):=by unfold decP; rw [dq]; rfl
 have dB:decB ((AG f' x y z d s t v:Nat):Int) n (AI f' (gF d s t v))=false:=by unfold decB; rw [dq]; rfl
 refine AR (A1 (auB n x y z u0 d s t v _ _ f' hf) (AD (by rw [eE]; exact en.1) (AD rfl (AD (fun _=>⟨by have:=hit.2; omega,dP,trivial⟩) (BN (fun e=>?_) fun _=>AK (A2 ?_))))))
 ·rw [eE,en.2,dB,beq_self_eq_true] at e; cases e
 refine AR (A1 (auC n x y z u0 d s t v _ _ f' hf) (SE (A2 ?_) (auD _ f' hf Rw)))
 cases hi:memS f' AB with
 | true=>
  have hfi:=NA hi
  refine A1 (aoP n x y z u0 d s t v _ l (a+1+1) (BI l (a+1) (BI l a j)) f' hfi) (AD ⟨x,y,z,d,s,t,_,hfi,Rw,ZC v ld ls lt,by rw [HT]; exact hr hfi,rfl,rfl,by omega,h2,j2⟩ (AK ?_))
  exact PD rfl rfl (by unfold outW; rw [hi])
 | false=>
  have hf2:f'∈(["R","E"]:List Str):=by
   have all:∀ f∈formsL,memS f AB=false→f∈(["R","E"]:List Str):=by decide +kernel
   exact all f' hf hi
  refine A1 (aiL n x y z u0 d s t v _ _ f' hf2) (AK ?_)
  exact PD rfl rfl (by unfold outW; rw [hi])
noncomputable def aiO:List AV→List AV→R (List AV×AV):=fun items args=>WY items fun l a j=>G8 a fun a=>G8 j fun j=>eAny args fun f r=>EB f fun f=>eAny r fun dr r=>eOne r fun rw=>.need (f∈formsL∧dr=drF f∧rw=QR f∧(0≤a∧a<990)∧l.length<1000∧(0≤j∧j<2147483648)) (.ret (outW f l a j))
theorem QU (x l:List AV):NoExc (aiO x l):=MW fun _ _ _=>CX fun _=>CX fun _=>CP fun _ _=>GB fun _=>CP fun _ _=>C4 fun _=>trivial
theorem ZE (items args:List AV) (P:List AV×AV→Prop) (hh:(aiO items args).Holds P False):(MP c32 4 60 (AC 46) (AE 46) "well" ["form","drawing","rows"] items args).Holds P False:=by
 refine MV hh fun l a' j' ei hh=>CL hh fun a ea hh=>CL hh fun j ej hh=>CO hh fun f' r' ef hh=>C8 hh fun f ef' hh=>CO hh fun dr r'' ed hh=>C3 hh fun rw el hh=>?_
 rw [ei,ea,ej,ef,ef',ed,el]
 ·have hq:(f∈formsL∧dr=drF f∧rw=QR f∧(0≤a∧a<990)∧l.length<1000∧(0≤j∧j<2147483648))∧P (outW f l a j):=hh
  (refine ob02 hq ?_; clear hq; intro ζ1 hp; refine ob06 ζ1 ?_; clear ζ1; intro hf e1 e2 h1 h2 h3)
  rw [e1,e2]
  exact (C5 (VB hf h1 h2 h3) fun p e=>by rw [e]; exact hp).out
def c33:Ctx:={ c32 with wfuns:=("_law_is_form_right",⟨4,aiO⟩) :: c32.wfuns }
theorem apD (X:(Kx w.params).In h) (lim:h.NoLimit):GOK prog w c33 h:=MT (aoN X lim) (BZ X (by kernel_rfl)) ⟨o652 w.params,_,X 652 _ (by kernel_rfl),rfl⟩ ((PX (d46 X lim) (aoN X lim) rfl 60).weaken ZE) QU
end
end Mine
end
section
open PySem.SeqAt MineH
namespace Mine
section
variable {prog:Program} {w:World} {h:Heap}
noncomputable def lens:List Nat→R AV→R AV
 | [],x=>x
 | n :: l,x=>.need (n≤16777216) (lens l x)
theorem QV {P:AV→Prop} {x:R AV} (h:HX x P False):∀ {l:List Nat},(∀ n∈l,n≤16777216)→HX (lens l x) P False
 | [],_=>h
 | n :: l,hl=>AD (hl n (by simp)) (QV h fun m hm=>hl m (by simp [hm]))
noncomputable def auE:List Nat:=[2,2,2,2,2,2,2,2,2,2,2,2,2,2,2,2,3,3,2,2,2,2]
noncomputable def auF:List Nat:=[2,2,2,2,2,2,2,2,2,2,3,3,3,3,3,3,3,3,3,3,3,3,3,3,3,3,3,3,3,3,3,3]
def regT (k:Int):R AV:=lens auE (.need (true=true) (.need (false=false→(0≤k∧k<14)∧True) (.ite (false||false) (.ret (.bool false)) (lens auF (.need (true=true) (.need (true=true→true=true∧True) (.ret (.sb (true&&true)))))))))
abbrev regE (k:Int):R AV:=run c33 2 50 ["wrong"] [.sym k]
theorem auG:regE 0=regT 0:=by kernel_rfl
theorem auH:regE 1=regT 1:=by kernel_rfl
theorem auI:regE 2=regT 2:=by kernel_rfl
theorem auJ:regE 3=regT 3:=by kernel_rfl
theorem auK:regE 4=regT 4:=by kernel_rfl
theorem auL:regE 5=regT 5:=by kernel_rfl
theorem auM:regE 6=regT 6:=by kernel_rfl
theorem auN:regE 7=regT 7:=by kernel_rfl
theorem auO:regE 8=regT 8:=by kernel_rfl
theorem auP:regE 9=regT 9:=by kernel_rfl
theorem apE:regE 10=regT 10:=by kernel_rfl
theorem apF:regE 11=regT 11:=by kernel_rfl
theorem apG:regE 12=regT 12:=by kernel_rfl
theorem apH:regE 13=regT 13:=by kernel_rfl
theorem C1 {k:Int} (hk:0≤k∧k<14):HX (regT k) (fun av=>av=.sb true) False:=by
 unfold regT
 refine QV ?_ (by decide)
 refine AD rfl ?_
 refine AD (fun _=>⟨hk,trivial⟩) ?_
 refine BN (fun e=>absurd e (by decide)) fun _=>?_
 refine QV ?_ (by decide)
 exact AD rfl (AD (fun _=>⟨rfl,trivial⟩) (AK rfl))
theorem ltS {Q:Nat→Prop} {n:Nat} (h:Q n) (r:∀ j,j<n→Q j):∀ j,j<n+1→Q j:=fun j hj=>(Nat.lt_succ_iff_lt_or_eq.mp hj).elim (r j) fun e=>e ▸ h
theorem ZF {k:Int} (hk:0≤k∧k<14):HX (regE k) (fun av=>av=.sb true) False:=by
 have key:∀ j:Nat,j<14→HX (regE (j:Int)) (fun av=>av=.sb true) False:=fun j hj=>by
  revert j
  refine ltS (Q:=fun j=>HX (regE (j:Int)) (fun av=>av=.sb true) False) (A1 apH (C1 (by decide))) ?_
  refine ltS (Q:=fun j=>HX (regE (j:Int)) (fun av=>av=.sb true) False) (A1 apG (C1 (by decide))) ?_
  refine ltS (Q:=fun j=>HX (regE (j:Int)) (fun av=>av=.sb true) False) (A1 apF (C1 (by decide))) ?_
  refine ltS (Q:=fun j=>HX (regE (j:Int)) (fun av=>av=.sb true) False) (A1 apE (C1 (by decide))) ?_
  refine ltS (Q:=fun j=>HX (regE (j:Int)) (fun av=>av=.sb true) False) (A1 auP (C1 (by decide))) ?_
  refine ltS (Q:=fun j=>HX (regE (j:Int)) (fun av=>av=.sb true) False) (A1 auO (C1 (by decide))) ?_
  refine ltS (Q:=fun j=>HX (regE (j:Int)) (fun av=>av=.sb true) False) (A1 auN (C1 (by decide))) ?_
  refine ltS (Q:=fun j=>HX (regE (j:Int)) (fun av=>av=.sb true) False) (A1 auM (C1 (by decide))) ?_
  refine ltS (Q:=fun j=>HX (regE (j:Int)) (fun av=>av=.sb true) False) (A1 auL (C1 (by decide))) ?_
  refine ltS (Q:=fun j=>HX (regE (j:Int)) (fun av=>av=.sb true) False) (A1 auK (C1 (by decide))) ?_
  refine ltS (Q:=fun j=>HX (regE (j:Int)) (fun av=>av=.sb true) False) (A1 auJ (C1 (by decide))) ?_
  refine ltS (Q:=fun j=>HX (regE (j:Int)) (fun av=>av=.sb true) False) (A1 auI (C1 (by decide))) ?_
  refine ltS (Q:=fun j=>HX (regE (j:Int)) (fun av=>av=.sb true) False) (A1 auH (C1 (by decide))) ?_
  refine ltS (Q:=fun j=>HX (regE (j:Int)) (fun av=>av=.sb true) False) (A1 auG (C1 (by decide))) ?_
  exact fun _ h=>absurd h (Nat.not_lt_zero _)
 (refine ob11 (Int.eq_ofNat_of_zero_le hk.1) fun j ζ1=>?_; subst ζ1)
 exact key j (by omega)
noncomputable def regS:List AV→R AV:=fun args=>eOne args fun v=>G8 v fun k=>.need (0≤k∧k<14) (.ret (.sb true))
theorem VC (l:List AV):NoExc (regS l):=C4 fun _=>CX fun _=>trivial
theorem apI (args:List AV) (P:AV→Prop) (hh:HX (regS args) P False):∃ args',(∀ V vs,HasL prog w V [] args vs→HasL prog w V [] args' vs)∧HX (run c33 2 50 ["wrong"] args') (fun av=>∃ av',P av'∧Sub prog w av av') False:=by
 refine C3 hh.out fun v ev hh=>CL hh fun k ek hh=>?_
 rw [ev,ek]
 have hq:(0≤k∧k<14)∧P (.sb true):=hh
 exact ⟨[.sym k],fun _ _ h=>h,agX (ZF hq.1) hq.2⟩
def c34:Ctx:=c33.add "_law_are_registers_right" 2 regS
theorem auQ (X:(Kx w.params).In h) (lim:h.NoLimit):GOK prog w c34 h:=AW (apD X lim) (BZ X (by kernel_rfl)) ⟨o676 w.params,_,X 676 _ (by kernel_rfl),rfl⟩ ((CC (d50 X lim) (apD X lim) rfl).coerce apI) VC
def sgnX:List AV→R AV:=run c6 0 17 ["value","width"]
def lowX:List AV→R AV:=run c8 1 19 ["value"]
def abU:List AV→R AV:=run c7 0 18 ["value"]
def sgnS:List AV→R AV:=fun args=>joinI sgnX (args.map sy)
def lowS:List AV→R AV:=fun args=>joinI lowX (args.map sy)
def auR:List AV→R AV:=fun args=>joinI abU (args.map sy)
def c35:Ctx:=((c34.add "signed" 0 sgnS).add "low_part" 1 lowS).add "high_part" 0 auR
theorem apJ (X:(Kx w.params).In h) (lim:h.NoLimit):GOK prog w c35 h:=
 AW (AW (AW (auQ X lim) (BZ X (by kernel_rfl)) ⟨o272 w.params,_,X 272 _ (by kernel_rfl),rfl⟩ ((CC (d17 X lim) (gok6 X lim) rfl).joinI) fun _=>CQ _)
  (BZ X (by kernel_rfl)) ⟨o286 w.params,_,X 286 _ (by kernel_rfl),rfl⟩ ((CC (d19 X lim) (gok8 X lim) rfl).joinI) fun _=>CQ _)
  (BZ X (by kernel_rfl)) ⟨o279 w.params,_,X 279 _ (by kernel_rfl),rfl⟩ ((CC (d18 X lim) (gok7 X lim) rfl).joinI) fun _=>CQ _
def sgT (v w:Int):R AV:=.need (0≤w∧w≤1000000) (.need (0≤w - 1) (.need (true=true) (.need ((sgc v w=true→(0≤w∧w≤1000000)∧True)∧(sgc v w=false→True)) (.ret (.sym (sgV v w))))))
theorem abV (v w:Int):sgnX [.sym v,.sym w]=sgT v w:=by kernel_rfl
theorem abW (v:Int):lowX [.sym v]=sgN v 12 (.ret (.sym (sgV v 12))):=by kernel_rfl
theorem ZG (v:Int):abU [.sym v]=.ret (.sym (im (v+2048) 12 1048575)):=by kernel_rfl
abbrev aeH (k i:Nat) (env:AEnv) (sl:SL):RS:=IK c35 2 k (AC 49) (BQ c35 2 (AC 49) k) env (stAt (AE 49) i) sl
theorem apK:AE 49=[stAt (AE 49) 0,stAt (AE 49) 1,stAt (AE 49) 2]:=by kernel_rfl
noncomputable def P0 (v w:Int):AEnv:=[("value",.sym v),("width",.sym w)]
def P1 (v w c lo hi:Int):AEnv:=("high",.sym hi) :: ("low",.sym lo) :: ("cut",.sym c) :: P0 v w
def sgR (v w:Int):R AV:=sgnX ([.sym v,.sym w].map sy)
def loR (v:Int):R AV:=lowX ([.sym v].map sy)
def hiR (v:Int):R AV:=abU ([.sym v].map sy)
theorem auS (v w:Int):aeH 59 0 (P0 v w) []=.need (okI (sgR v w)) (.need (okI (loR v)) (.need (okI (hiR v)) (.ret (.nxt,P1 v w (valI (sgR v w)) (valI (loR v)) (valI (hiR v)),[])))):=by kernel_rfl
noncomputable def p2 (w:Int):Int:=1*2 ^ w.toNat
def cutB (w c:Int):Bool:=decide (-(p2 w)≤2*c)&&decide (2*c<p2 w)
def remB (v w c:Int):Bool:=!((c - v).fmod (p2 w)==0)
theorem auT (v w c lo hi:Int):aeH 58 1 (P1 v w c lo hi) []=.need (0≤w∧w≤1000000) (.need (c.natAbs<2 ^ 64) (.need (decide (-(p2 w)≤2*c)=true→(0≤w∧w≤1000000)∧True)
  (.need ((!cutB w c)=false→(0≤w∧w≤1000000)∧p2 w≠0∧true=true∧True) (.ite ((!cutB w c)||remB v w c) (retF (P1 v w c lo hi) []) (.ret (.nxt,P1 v w c lo hi,[])))))):=by kernel_rfl
noncomputable def loB (lo:Int):Bool:=decide (-2048≤lo)&&decide (lo<2048)
noncomputable def hiB (hi:Int):Bool:=decide (0≤hi)&&decide (hi<1048576)
noncomputable def eqB (v lo hi:Int):Bool:=(hi*4096+lo - v).fmod 4294967296==0
theorem auU (v w c lo hi:Int):BQ c35 2 (AC 49) 58 (P1 v w c lo hi) [stAt (AE 49) 2] []=.need (decide (-2048≤lo)=true→True) (.need (loB lo=true→(decide (0≤hi)=true→True)∧(hiB hi=true→hi.natAbs<2 ^ 64∧true=true∧True)∧True)
  (.ret (.ret (.sb (loB lo&&(hiB hi&&eqB v lo hi))),P1 v w c lo hi,[]))):=by kernel_rfl
end
end Mine
end
section
open PySem.SeqAt MineH
namespace Mine
section
variable {prog:Program} {w:World} {h:Heap}
theorem aeI (n:Nat):p2 (n:Int)=((2 ^ n:Nat):Int):=by
 unfold p2
 rw [Int.toNat_natCast,Int.one_mul]; push_cast; rfl
theorem ZH (v:Int) (m:Nat):(-(2:Int) ^ m≤sgV v ((m+1:Nat):Int)∧sgV v ((m+1:Nat):Int)<2 ^ m)∧∃ q:Int,sgV v ((m+1:Nat):Int)=v+2 ^ (m+1)*q:=by
 have e1:sgx v ((m+1:Nat):Int)=v % 2 ^ (m+1):=by
  unfold sgx
  rw [Int.toNat_natCast,← HP]
  have:=Nat.two_pow_pos (m+1)
  congr 1
  rw [Int.natCast_sub this]; push_cast; omega
 have hp:(0:Int)<2 ^ m:=D5 m
 have e2:sgc v ((m+1:Nat):Int)=((v % 2 ^ (m+1)) / 2 ^ m==1):=by
  unfold sgc
  rw [e1,show (((m+1:Nat):Int) - 1).toNat=m by omega,MZ]
 unfold sgV
 rw [e1,e2]
 have l1:=Int.emod_nonneg v (Int.ne_of_gt (D5 (m+1)))
 have l2:=Int.emod_lt_of_pos v (D5 (m+1))
 have l3:=Int.mul_ediv_add_emod v (2 ^ (m+1))
 rw [Int.pow_succ] at *
 generalize hP:(2:Int) ^ m=P at *
 generalize hr:v % (P*2)=r at *
 generalize hq:v / (P*2)=q at *
 have d1:=Int.mul_ediv_add_emod r P
 have d2:=Int.emod_nonneg r (Int.ne_of_gt hp)
 have d3:=Int.emod_lt_of_pos r hp
 have dv:r / P=0∨r / P=1:=by
  have a:0≤r / P:=Int.ediv_nonneg l1 (Int.le_of_lt hp)
  have b:r / P<2:=Int.ediv_lt_of_lt_mul hp (by omega)
  omega
 rcases dv with k | k
 ·rw [k] at d1 ⊢
  rw [show ((0:Int)==1)=false from rfl]
  show (_≤r∧r<_)∧∃ q',r=_
  refine ⟨⟨by omega,by omega⟩,-q,?_⟩
  rw [Int.mul_neg]; omega
 ·rw [k] at d1 ⊢
  rw [show ((1:Int)==1)=true from rfl,Int.toNat_natCast]
  show (_≤r - 1*2 ^ (m+1)∧r - 1*2 ^ (m+1)<_)∧∃ q',r - 1*2 ^ (m+1)=_
  rw [Int.pow_succ,hP]
  refine ⟨⟨by omega,by omega⟩,-q - 1,?_⟩
  rw [Int.mul_sub,Int.mul_neg]; omega
theorem QW (v:Int) {m:Nat}:(!cutB ((m+1:Nat):Int) (sgV v ((m+1:Nat):Int)))=false∧remB v ((m+1:Nat):Int) (sgV v ((m+1:Nat):Int))=false∧(sgV v ((m+1:Nat):Int)).natAbs≤2 ^ m:=by
 (refine ob02 (ZH v m) fun ζ1 ζ2=>?_; refine ob02 ζ1 ?_; clear ζ1; intro h1 h2; refine ob11 ζ2 ?_; clear ζ2; intro q h3)
 have pp:p2 ((m+1:Nat):Int)=2 ^ m*2:=by rw [aeI,Nat.pow_succ]; push_cast; rfl
 have hp:(0:Int)<2 ^ m:=D5 m
 refine ⟨?_,?_,?_⟩
 ·unfold cutB
  rw [pp,decide_eq_true (by omega),decide_eq_true (by omega)]; rfl
 ·unfold remB
  rw [pp,Int.fmod_eq_emod_of_nonneg _ (by omega),show sgV v ((m+1:Nat):Int) - v=2 ^ m*2*q by rw [h3,Int.pow_succ]; omega,Int.mul_emod_right]; rfl
 ·have:((2 ^ m:Nat):Int)=2 ^ m:=by push_cast; rfl
  omega
theorem ZI (v:Int):loB (sgV v 12)=true∧hiB (im (v+2048) 12 1048575)=true∧eqB v (sgV v 12) (im (v+2048) 12 1048575)=true∧(im (v+2048) 12 1048575).natAbs<2 ^ 64:=by
 (refine ob02 (ZH v 11) fun ζ1 ζ2=>?_; refine ob02 ζ1 ?_; clear ζ1; intro h1 h2; refine ob11 ζ2 ?_; clear ζ2; intro q h3)
 rw [show sgV v 12=sgV v ((11+1:Nat):Int) from rfl]
 generalize sgV v ((11+1:Nat):Int)=lo at *
 have e:im (v+2048) 12 1048575=(v+2048) / 4096 % 1048576:=by
  have:=ES (v+2048) 12 20
  rw [H7] at this
  exact this
 rw [e]
 refine ⟨?_,?_,?_,by omega⟩
 ·unfold loB
  rw [decide_eq_true (by omega),decide_eq_true (by omega)]; rfl
 ·unfold hiB
  rw [decide_eq_true (by omega),decide_eq_true (by omega)]; rfl
 ·unfold eqB
  rw [Int.fmod_eq_emod_of_nonneg _ (by decide)]
  refine beq_iff_eq.mpr ?_
  omega
theorem QX (v:Int) {m:Nat} (hm:m<32):HX (run c35 2 49 ["value","width"] [.sym v,.sym ((m+1:Nat):Int)]) (fun av=>av=.sb true) False:=by
 refine ob03 (QW v (m:=m)) fun k1 k2 k3=>?_
 refine ob04 (ZI v) fun l1 l2 l3 l4=>?_
 have hp:(2:Nat) ^ m≤2 ^ 31:=Nat.pow_le_pow_right (by decide) (by omega)
 have s1:okI (sgR v ((m+1:Nat):Int))∧valI (sgR v ((m+1:Nat):Int))=sgV v ((m+1:Nat):Int):=FL (by
  show HX (sgnX [.sym v,.sym ((m+1:Nat):Int)]) _ False
  rw [abV]
  exact AD (by omega) (AD (by omega) (AD rfl (AD ⟨fun _=>⟨by omega,trivial⟩,fun _=>trivial⟩ (AK rfl)))))
 have s2:okI (loR v)∧valI (loR v)=sgV v 12:=FL (by
  show HX (lowX [.sym v]) _ False
  rw [abW]
  exact ⟨FI rfl⟩)
 have s3:okI (hiR v)∧valI (hiR v)=im (v+2048) 12 1048575:=FL (by
  show HX (abU [.sym v]) _ False
  rw [ZG]
  exact AK rfl)
 refine XH (by kernel_rfl) ?_
 show HX (BQ c35 2 (AC 49) 60 (P0 v ((m+1:Nat):Int)) (AE 49) []) _ False
 rw [apK]
 refine AR (A1 (auS v _) (AD s1.1 (AD s2.1 (AD s3.1 (AK (A2 ?_))))))
 rw [s1.2,s2.2,s3.2]
 have hw:(0:Int)≤((m+1:Nat):Int)∧((m+1:Nat):Int)≤1000000:=by omega
 refine AR (A1 (auT v _ _ _ _) (AD hw (AD (by omega) (AD (fun _=>⟨hw,trivial⟩) (AD (fun _=>⟨hw,?_,rfl,trivial⟩) (BN (fun e=>?_) fun _=>AK (A2 ?_)))))))
 ·rw [aeI]; have:=Nat.two_pow_pos (m+1); omega
 ·rw [k1,k2] at e; exact absurd e (by decide)
 refine A1 (auU v _ _ _ _) (AD (fun _=>trivial) (AD (fun _=>⟨fun _=>trivial,fun _=>⟨l4,rfl,trivial⟩,trivial⟩) (AK ?_)))
 rw [l1,l2,l3]
 exact ⟨rfl⟩
noncomputable def aiP:List AV→R AV:=fun args=>eAny args fun v r=>G8 v fun _=>eOne r fun u=>G8 u fun k=>.need (1≤k∧k≤32) (.ret (.sb true))
theorem QY (l:List AV):NoExc (aiP l):=CP fun _ _=>CX fun _=>C4 fun _=>CX fun _=>trivial
theorem aiQ (args:List AV) (P:AV→Prop) (hh:HX (aiP args) P False):∃ args',(∀ V vs,HasL prog w V [] args vs→HasL prog w V [] args' vs)∧HX (run c35 2 49 ["value","width"] args') (fun av=>∃ av',P av'∧Sub prog w av av') False:=by
 refine CO hh.out fun v' r ev hh=>CL hh fun v ev' hh=>C3 hh fun u eu hh=>CL hh fun k ek hh=>?_
 rw [ev,ev',eu,ek]
 ·have hq:(1≤k∧k≤32)∧P (.sb true):=hh
  obtain ⟨m,hm⟩:∃ m:Nat,k=((m+1:Nat):Int):=⟨(k - 1).toNat,by omega⟩
  refine ⟨[.sym v,.sym k],fun _ _ h=>h,?_⟩
  rw [hm]
  exact agX (QX v (by omega)) hq.2
def c36:Ctx:=c35.add "_law_are_parts_right" 2 aiP
theorem auV (X:(Kx w.params).In h) (lim:h.NoLimit):GOK prog w c36 h:=AW (apJ X lim) (BZ X (by kernel_rfl)) ⟨o671 w.params,_,X 671 _ (by kernel_rfl),rfl⟩ ((CC (d49 X lim) (apJ X lim) rfl).coerce aiQ) QY
end
end Mine
end
section
open PySem.SeqAt MineH
namespace Mine
section
variable {prog:Program} {w:World} {h:Heap}
abbrev HU (k i:Nat) (env:AEnv) (sl:SL):RS:=IK c36 5 k (AC 51) (BQ c36 5 (AC 51) k) env (stAt (AE 51) i) sl
noncomputable def L0 (l:List Int):AEnv:=[("numbers",.ints l)]
def L1 (l:List Int):AEnv:=("rows",HA) :: ("well",.loc 0) :: L0 l
def L2 (l:List Int) (u0 u1 u2 u3 u4:Int):AEnv:=("ill",.sym u4) :: ("wrong",.sym u3) :: ("width",.sym u2) :: ("first",.sym u1) :: ("which",.sym u0) :: L1 l
def L3 (l:List Int) (u0 u1 u2 u3 u4 hi lo:Int):AEnv:=("low",.sym lo) :: ("high",.sym hi) :: L2 l u0 u1 u2 u3 u4
def L6 (l:List Int) (u0 u1 u2 u3 u4 hi lo:Int):AEnv:=("known_rows",EY) :: ("pictures",.loc 1) :: L3 l u0 u1 u2 u3 u4 hi lo
noncomputable def seed (l:List Int):Int:=l.sum.fmod 65537+12345
theorem auW (l:List Int):HU 59 1 (L0 l) []=.ret (.nxt,L1 l,[.own (.lst [.ints l,.num 0,.sym (seed l)])]):=by kernel_rfl
noncomputable def dr5 (v:Int) (K:Int→Int→Int→Int→Int→RS):RS:=K (v.fmod 48) ((v.fdiv 48).fmod 32) (((v.fdiv 48).fdiv 32).fmod 32) ((((v.fdiv 48).fdiv 32).fdiv 32).fmod 14) (((((v.fdiv 48).fdiv 32).fdiv 32).fdiv 14).fmod 6)
theorem auX (l:List Int) (s:Int):HU 58 2 (L1 l) [.own (.lst [.ints l,.num 0,.sym s])]=.need (O3 l 0 s [48,32,32,14,6])
  (dr5 (B4 l 0 s) fun u0 u1 u2 u3 u4=>.ret (.nxt,L2 l u0 u1 u2 u3 u4,IN l (0+1) (BI l 0 s))):=by kernel_rfl
theorem auY (l:List Int) (u0 u1 u2 u3 u4 a s:Int):HU 57 3 (L2 l u0 u1 u2 u3 u4) (IN l a s)=.need (O3 l a s [Mx]) (.need (O3 l (a+1) (BI l a s) [Mx])
  (.ret (.nxt,L3 l u0 u1 u2 u3 u4 ((B4 l a s).fmod Mx) ((B4 l (a+1) (BI l a s)).fmod Mx),IN l (a+1+1) (BI l (a+1) (BI l a s))))):=by kernel_rfl
theorem auZ (l:List Int) (u0 u1 u2 u3 u4 hi lo:Int) (sl:SL):HU 56 4 (L3 l u0 u1 u2 u3 u4 hi lo) sl=.need (hi.natAbs<2 ^ 64) (.need (1≤u2+1∧u2+1≤32) (.need ((!true)=false→lo.natAbs<2 ^ 64∧hi.natAbs<2 ^ 64∧(1≤32 - u2∧32 - u2≤32)∧True)
  (.ite ((!true)||!true) (retF (L3 l u0 u1 u2 u3 u4 hi lo) sl) (.ret (.nxt,L3 l u0 u1 u2 u3 u4 hi lo,sl))))):=by kernel_rfl
def noN:List Str:=match v_N with | .lst l=>(match GD l with | some m=>m | none=>[]) | _=>[]
def refN (k:Int):R AV:=refX ([.str (H8 noN k.toNat),.dS ["rd","rs1","imm"] [.num 1,.num 1,.num 0]].map sy)
theorem avA (l:List Int) (u0 u1 u2 u3 u4 hi lo:Int) (sl:SL):HU 55 5 (L3 l u0 u1 u2 u3 u4 hi lo) sl=.need (0≤u3∧u3<14) (.need ((!true)=false→(0≤u4∧u4<6)∧okB (refN u4)∧True)
  (.ite ((!true)||!valB (refN u4)) (retF (L3 l u0 u1 u2 u3 u4 hi lo) sl) (.ret (.nxt,L3 l u0 u1 u2 u3 u4 hi lo,sl)))):=by kernel_rfl
theorem avB (l:List Int) (u0 u1 u2 u3 u4 hi lo:Int) (W:List AV):HU 54 6 (L3 l u0 u1 u2 u3 u4 hi lo) [.own (.lst W)]=.need (HA=HA) (.ret (.nxt,L6 l u0 u1 u2 u3 u4 hi lo,[.own (.lst W),.own (.dS [] [])])):=by kernel_rfl
end
end Mine
end
section
open PySem.SeqAt MineH
namespace Mine
section
variable {prog:Program} {w:World} {h:Heap}
abbrev f51:Expr×Expr×List Stmt×Pos:=forP (stAt (AE 51) 7)
def b51:List Stmt:=f51.2.2.1
theorem apL (l:List Int) (u0 u1 u2 u3 u4 hi lo:Int) (sl:SL):FA c36 5 53 (AC 51) (L6 l u0 u1 u2 u3 u4 hi lo) f51.2.1 sl=.ret (none,v_P):=by kernel_rfl
def L7 (l:List Int) (u0 u1 u2 u3 u4 hi lo:Int) (f:AV):AEnv:=("form",f) :: L6 l u0 u1 u2 u3 u4 hi lo
theorem apM (l:List Int) (u0 u1 u2 u3 u4 hi lo:Int) (f:AV):ED (AC 51) f51.1 f (L6 l u0 u1 u2 u3 u4 hi lo)=some (L7 l u0 u1 u2 u3 u4 hi lo f):=by kernel_rfl
theorem FM (l:List Int) (u0 u1 u2 u3 u4 hi lo:Int) (f g:AV):ED (AC 51) f51.1 f (L7 l u0 u1 u2 u3 u4 hi lo g)=some (L7 l u0 u1 u2 u3 u4 hi lo f):=by kernel_rfl
def slP (l:List Int) (a s:Int) (i:Nat):SL:=[.own (.lst (KA l a s)),.own (.dS (formsL.take i) (drawL.take i))]
def FP (f:Str) (l:List Int) (a j:Int):Prop:=f∈formsL∧drF f=drF f∧QR f=QR f∧(0≤a∧a<990)∧l.length<1000∧(0≤j∧j<2147483648)
def QZ (f:Str) (a:Int):Int:=match memS f AB with | true=>a+1+1+1+1 | false=>a+1+1
def ZJ (f:Str) (l:List Int) (a j:Int):Int:=match memS f AB with
 | true=>BI l (a+1+1+1) (BI l (a+1+1) (BI l (a+1) (BI l a j)))
 | false=>BI l (a+1) (BI l a j)
def KZ (l:List Int) (u0 u1 u2 u3 u4 hi lo:Int) (f:Str) (i:Nat) (a j:Int):RS:=.need (FP f l a j) (match memS f AB with
 | true=>.ite (!true) (retF (L7 l u0 u1 u2 u3 u4 hi lo (.str f)) (slP l (QZ f a) (ZJ f l a j) (i+1))) (.ret (.nxt,L7 l u0 u1 u2 u3 u4 hi lo (.str f),slP l (QZ f a) (ZJ f l a j) (i+1)))
 | false=>.ret (.nxt,L7 l u0 u1 u2 u3 u4 hi lo (.str f),slP l (QZ f a) (ZJ f l a j) (i+1)))
abbrev HV (l:List Int) (u0 u1 u2 u3 u4 hi lo:Int) (f:Str) (i:Nat) (a j:Int):RS:=BQ c36 5 (AC 51) 53 (L7 l u0 u1 u2 u3 u4 hi lo (.str f)) b51 (slP l a j i)
theorem apN (l:List Int) (u0 u1 u2 u3 u4 hi lo a j:Int):HV l u0 u1 u2 u3 u4 hi lo "R" 0 a j=KZ l u0 u1 u2 u3 u4 hi lo "R" 0 a j:=by kernel_rfl
theorem apO (l:List Int) (u0 u1 u2 u3 u4 hi lo a j:Int):HV l u0 u1 u2 u3 u4 hi lo "I" 1 a j=KZ l u0 u1 u2 u3 u4 hi lo "I" 1 a j:=by kernel_rfl
theorem apP (l:List Int) (u0 u1 u2 u3 u4 hi lo a j:Int):HV l u0 u1 u2 u3 u4 hi lo "H" 2 a j=KZ l u0 u1 u2 u3 u4 hi lo "H" 2 a j:=by kernel_rfl
theorem apQ (l:List Int) (u0 u1 u2 u3 u4 hi lo a j:Int):HV l u0 u1 u2 u3 u4 hi lo "S" 3 a j=KZ l u0 u1 u2 u3 u4 hi lo "S" 3 a j:=by kernel_rfl
theorem apR (l:List Int) (u0 u1 u2 u3 u4 hi lo a j:Int):HV l u0 u1 u2 u3 u4 hi lo "B" 4 a j=KZ l u0 u1 u2 u3 u4 hi lo "B" 4 a j:=by kernel_rfl
theorem apS (l:List Int) (u0 u1 u2 u3 u4 hi lo a j:Int):HV l u0 u1 u2 u3 u4 hi lo "U" 5 a j=KZ l u0 u1 u2 u3 u4 hi lo "U" 5 a j:=by kernel_rfl
theorem apT (l:List Int) (u0 u1 u2 u3 u4 hi lo a j:Int):HV l u0 u1 u2 u3 u4 hi lo "J" 6 a j=KZ l u0 u1 u2 u3 u4 hi lo "J" 6 a j:=by kernel_rfl
theorem apU (l:List Int) (u0 u1 u2 u3 u4 hi lo a j:Int):HV l u0 u1 u2 u3 u4 hi lo "F" 7 a j=KZ l u0 u1 u2 u3 u4 hi lo "F" 7 a j:=by kernel_rfl
theorem apV (l:List Int) (u0 u1 u2 u3 u4 hi lo a j:Int):HV l u0 u1 u2 u3 u4 hi lo "E" 8 a j=KZ l u0 u1 u2 u3 u4 hi lo "E" 8 a j:=by kernel_rfl
def L8 (l:List Int) (u0 u1 u2 u3 u4 hi lo:Int) (n f:Str) (x y z:Int):AEnv:=("fixed",xyzA x y z) :: ("form",.str f) :: ("name",.str n) :: L6 l u0 u1 u2 u3 u4 hi lo
theorem avC (l:List Int) (u0 u1 u2 u3 u4 hi lo:Int) (g:AV) (sl:SL):HU 52 8 (L7 l u0 u1 u2 u3 u4 hi lo g) sl=SD u0 (fun r=>.ret (.nxt,L8 l u0 u1 u2 u3 u4 hi lo r.1 r.2.1 (r.2.2.1:Nat) (r.2.2.2.1:Nat) (r.2.2.2.2:Nat),sl)) 0 rowsX:=by kernel_rfl
def L9 (l:List Int) (u0 u1 u2 u3 u4 hi lo:Int) (n f:Str) (x y z:Int):AEnv:=("known",.loc 2) :: L8 l u0 u1 u2 u3 u4 hi lo n f x y z
def kn9 (x y z hi lo:Int):AV:=O7 x y z (lo.fmod 32) (hi.fmod 32) ((lo.fdiv 32).fmod 32) hi
theorem avD (l:List Int) (u0 u1 u2 u3 u4 hi lo:Int) (n f:Str) (x y z:Int) (W P:AV):HU 51 9 (L8 l u0 u1 u2 u3 u4 hi lo n f x y z) [.own W,.own P]=.ret (.nxt,L9 l u0 u1 u2 u3 u4 hi lo n f x y z,[.own W,.own P,.own (kn9 x y z hi lo)]):=by kernel_rfl
def lay3 (f:Str) (x y z:Int):R AV:=IM ([drF f,xyzA x y z].map sy)
def cel9 (f:Str) (x y z hi lo:Int):R AV:=IM ([drF f,kn9 x y z hi lo].map sy)
def apW (f:Str) (x y z hi lo:Int):AV:=.lst [.sym (valI (cel9 f x y z hi lo)),.sym (valI (lay3 "F" 15 0 0)),.sym (valI (lay3 "E" 115 0 0)),.sym (valI (lay3 "E" 115 0 8192))]
def L10 (l:List Int) (u0 u1 u2 u3 u4 hi lo:Int) (n f:Str) (x y z:Int):AEnv:=("cells",apW f x y z hi lo) :: L9 l u0 u1 u2 u3 u4 hi lo n f x y z
theorem apX (l:List Int) (u0 u1 u2 u3 u4 hi lo:Int) (n:Str) (x y z:Int) (W:AV):∀ f∈formsL,HU 50 10 (L9 l u0 u1 u2 u3 u4 hi lo n f x y z) [.own W,.own J9,.own (kn9 x y z hi lo)] =
  .need (okI (cel9 f x y z hi lo)) (.need (okI (lay3 "F" 15 0 0)) (.need (okI (lay3 "E" 115 0 0)) (.need (okI (lay3 "E" 115 0 8192)) (.ret (.nxt,L10 l u0 u1 u2 u3 u4 hi lo n f x y z,[.own W,.own J9,.frz (kn9 x y z hi lo)]))))):=
 by9 (by kernel_rfl) (by kernel_rfl) (by kernel_rfl) (by kernel_rfl) (by kernel_rfl) (by kernel_rfl) (by kernel_rfl) (by kernel_rfl) (by kernel_rfl)
def TP (N:Int):Prop:=EY=EY∧J9=J9∧0≤N∧N<4294967296
theorem apY (l:List Int) (u0 u1 u2 u3 u4 hi lo:Int) (n f:Str) (x y z:Int) (W:AV) (k:AV):BQ c36 5 (AC 51) 50 (L10 l u0 u1 u2 u3 u4 hi lo n f x y z) [stAt (AE 51) 11] [.own W,.own J9,.frz k] =
  .need (TP (valI (cel9 f x y z hi lo))) (.need (TP (valI (lay3 "F" 15 0 0))) (.need (TP (valI (lay3 "E" 115 0 0))) (.need (TP (valI (lay3 "E" 115 0 8192))) (.ret (.ret (.bool true),L10 l u0 u1 u2 u3 u4 hi lo n f x y z,[.own W,.frz J9,.frz k]))))):=by kernel_rfl
theorem apZ:AE 51=[stAt (AE 51) 0,stAt (AE 51) 1,stAt (AE 51) 2,stAt (AE 51) 3,stAt (AE 51) 4,stAt (AE 51) 5,stAt (AE 51) 6,.For f51.1 f51.2.1 b51 [] f51.2.2.2,stAt (AE 51) 8,stAt (AE 51) 9,stAt (AE 51) 10,stAt (AE 51) 11]:=by kernel_rfl
end
end Mine
end
section
open PySem.SeqAt MineH
namespace Mine
section
variable {prog:Program} {w:World} {h:Heap}
theorem avE {f:Str} {a:Int} {i:Nat} (h:0≤a∧a≤3+4*(i:Int)):0≤QZ f a∧QZ f a≤3+4*((i+1:Nat):Int):=by
 unfold QZ
 cases memS f AB with
 | true=>dsimp only; omega
 | false=>dsimp only; omega
theorem DN {l:List Int} {u0 u1 u2 u3 u4 hi lo:Int} {f:Str} {i:Nat} {a j:Int} (hf:f∈formsL) (hi9:i<9) (h1:0≤a∧a≤3+4*(i:Int)) (h2:l.length<1000) (h3:0≤j∧j<2147483648) {P:Fl×AEnv×SL→Prop}
  (hP:∀ a' j',(0≤a'∧a'≤3+4*((i+1:Nat):Int))→(0≤j'∧j'<2147483648)→P (.nxt,L7 l u0 u1 u2 u3 u4 hi lo (.str f),slP l a' j' (i+1))):HX (KZ l u0 u1 u2 u3 u4 hi lo f i a j) P False:=by
 have r:=hP (QZ f a) (ZJ f l a j) (avE h1) (by unfold ZJ; cases memS f AB<;>exact DB l _ _ (by first | exact h3 | exact DB l _ _ (by first | exact h3 | exact DB l _ _ (by first | exact h3 | exact DB l _ _ h3))))
 have h990:0≤a∧a<990:=by clear hP r h2 h3 hf; omega
 refine AD ⟨hf,rfl,rfl,h990,h2,h3⟩ ?_
 generalize memS f AB=b
 cases b with
 | true=>exact BN (fun e=>absurd e (by decide)) fun _=>AK r
 | false=>exact AK r
theorem aiR (l:List Int):0≤seed l∧seed l<2147483648:=by
 have:=B8 l.sum (show (0:Int)<65537 by decide)
 unfold seed
 omega
theorem J0 {x:Int} (h:0≤x∧x<2147483647):x.natAbs<2 ^ 64:=by omega
theorem lane {u:Int} (h:0≤u∧u<32):(1≤u+1∧u+1≤32)∧(1≤32 - u∧32 - u≤32):=by omega
theorem all5 {P:Int→Prop} {a b c d e:Int} (ha:P a) (hb:P b) (hc:P c) (hd:P d) (he:P e):∀ n∈[a,b,c,d,e],P n:=
 have k {x:Int} {l:List Int} (hx:P x) (h:∀ n∈l,P n):∀ n∈x :: l,P n:=List.forall_mem_cons.mpr ⟨hx,h⟩
 k ha (k hb (k hc (k hd (k he fun _ h=>nomatch h))))
theorem aqA:∀ k:Nat,k<6→memS (H8 noN k) DY=false∧(H8 noN k).length≤1000:=by decide +kernel
theorem aiS {k:Int} (hk:0≤k∧k<6):okB (refN k)∧valB (refN k)=true:=by
 (refine ob11 (Int.eq_ofNat_of_zero_le hk.1) fun j ζ1=>?_; subst ζ1)
 have q:=aqA j (by omega)
 have e:refN (j:Int)=refX [.str (H8 noN j),.dS ["rd","rs1","imm"] [.sym 1,.sym 1,.sym 0]]:=rfl
 rw [e]
 exact A6 (abM q.1 q.2)
theorem aqB (x y z hi lo:Int):∀ f∈formsL,cel9 f x y z hi lo=IM [drF f,YD x y z (lo.fmod 32) (hi.fmod 32) ((lo.fdiv 32).fmod 32) hi]:=
 by9 (by kernel_rfl) (by kernel_rfl) (by kernel_rfl) (by kernel_rfl) (by kernel_rfl) (by kernel_rfl) (by kernel_rfl) (by kernel_rfl) (by kernel_rfl)
theorem aeJ {R':R AV} {k:Nat} {L:List (Int×Nat)} (e:R'=layF k 0 L) (hl:L.length=32):okI R'∧TP (valI R'):=by
 have h:=FL (x:=R') (i:=lay 0 L) (by rw [e]; exact NS k L 0 0 (by decide) (by decide) (by rw [hl]; decide))
 have r:=OW L 0 0 (by decide) (by decide)
 rw [hl] at r
 refine ⟨h.1,rfl,rfl,?_⟩
 rw [h.2]
 exact r
theorem aqC (x y z hi lo:Int) {f:Str} (hf:f∈formsL):okI (cel9 f x y z hi lo)∧TP (valI (cel9 f x y z hi lo)):=
 aeJ ((aqB x y z hi lo f hf).trans (amF _ _ _ _ _ _ _ f hf)) (IW _ _ _ _ _ _ _ f hf)
theorem aiT (x y z:Int):∀ f∈(["F","E"]:List Str),lay3 f x y z=IM [drF f,.dS ["x","y","z"] [.sym x,.sym y,.sym z]]:=by
 intro f hf
 simp only [List.mem_cons,List.not_mem_nil,or_false] at hf
 rcases hf with q | q<;>rw [q]<;>kernel_rfl
theorem Q0 (x y z:Int) {f:Str} (hf:f∈(["F","E"]:List Str)) (hf':f∈formsL):okI (lay3 f x y z)∧TP (valI (lay3 f x y z)):=
 aeJ ((aiT x y z f hf).trans (atG x y z f hf)) (IW _ _ _ _ _ _ _ f hf')
noncomputable def aqD:List AV:=[.str "R",.str "I",.str "H",.str "S",.str "B",.str "U",.str "J",.str "F",.str "E"]
def aeK:List Stmt:=[stAt (AE 51) 1,stAt (AE 51) 2,stAt (AE 51) 3,stAt (AE 51) 4,stAt (AE 51) 5,stAt (AE 51) 6,.For f51.1 f51.2.1 b51 [] f51.2.2.2,stAt (AE 51) 8,stAt (AE 51) 9,stAt (AE 51) 10,stAt (AE 51) 11]
theorem ZK:rowsX.length=48:=by decide +kernel
theorem fms:("R" : Str)∈formsL∧("I" : Str)∈formsL∧("H" : Str)∈formsL∧("S" : Str)∈formsL∧("B" : Str)∈formsL∧("U" : Str)∈formsL∧("J" : Str)∈formsL∧("F" : Str)∈formsL∧("E" : Str)∈formsL:=by decide +kernel
theorem abX {l:List Int} (hl:l.length<1000):HX (BQ c36 5 (AC 51) 60 (L0 l) aeK []) (fun p=>∃ env sl,p=(.ret (.bool true),env,sl)) False:=by
 have sd:=aiR l
 refine AR (A1 (auW l) (AK (A2 ?_)))
 generalize seed l=s0 at *
 refine AR (A1 (auX l s0) (AD ⟨⟨by decide,by decide,hl,sd⟩,.inr (.inr rfl),all5 (by decide) (by decide) (by decide) (by decide) (by decide)⟩ ?_))
 unfold dr5
 refine AK (A2 ?_)
 have s1:=DB l 0 s0 sd
 have w0:=B8 (B4 l 0 s0) (show (0:Int)<48 by decide)
 have w1:=B8 ((B4 l 0 s0).fdiv 48) (show (0:Int)<32 by decide)
 have w2:=B8 (((B4 l 0 s0).fdiv 48).fdiv 32) (show (0:Int)<32 by decide)
 have w3:=B8 ((((B4 l 0 s0).fdiv 48).fdiv 32).fdiv 32) (show (0:Int)<14 by decide)
 have w4:=B8 (((((B4 l 0 s0).fdiv 48).fdiv 32).fdiv 32).fdiv 14) (show (0:Int)<6 by decide)
 generalize (B4 l 0 s0).fmod 48=u0 at *
 generalize ((B4 l 0 s0).fdiv 48).fmod 32=u1 at *
 generalize (((B4 l 0 s0).fdiv 48).fdiv 32).fmod 32=u2 at *
 generalize ((((B4 l 0 s0).fdiv 48).fdiv 32).fdiv 32).fmod 14=u3 at *
 generalize (((((B4 l 0 s0).fdiv 48).fdiv 32).fdiv 32).fdiv 14).fmod 6=u4 at *
 generalize BI l 0 s0=t1 at *
 have s2:=DB l (0+1) t1 s1
 have s3:=DB l (0+1+1) _ s2
 refine AR (A1 (auY l u0 u1 u2 u3 u4 (0+1) t1) (AD (O6 ⟨by decide,by decide,hl,s1⟩) (AD (O6 ⟨by decide,by decide,hl,s2⟩) (AK (A2 ?_)))))
 have v1:=B8 (B4 l (0+1) t1) (show (0:Int)<Mx by decide)
 have v2:=B8 (B4 l (0+1+1) (BI l (0+1) t1)) (show (0:Int)<Mx by decide)
 generalize (B4 l (0+1) t1).fmod Mx=hi at *
 generalize (B4 l (0+1+1) (BI l (0+1) t1)).fmod Mx=lo at *
 have v1:0≤hi∧hi<2147483647:=v1
 have v2:0≤lo∧lo<2147483647:=v2
 have ha0:(0:Int)≤0+1+1+1∧(0:Int)+1+1+1≤3+4*((0:Nat):Int):=by decide
 generalize (0+1+1+1:Int)=a0 at *
 generalize BI l (0+1+1) (BI l (0+1) t1)=j0 at *
 refine AR (A1 (auZ l u0 u1 u2 u3 u4 hi lo _) (AD (J0 v1) (AD (lane w2).1 (AD (fun _=>⟨J0 v2,J0 v1,(lane w2).2,trivial⟩) (BN (fun e=>absurd e (by decide)) fun _=>AK (A2 ?_))))))
 have rn:=aiS w4
 refine AR (A1 (avA l u0 u1 u2 u3 u4 hi lo _) (AD w3 (AD (fun _=>⟨w4,rn.1,trivial⟩) (BN (fun e=>?_) fun _=>AK (A2 ?_)))))
 ·rw [rn.2] at e; exact absurd e (by decide)
 refine AR (A1 (avB l u0 u1 u2 u3 u4 hi lo _) (AD rfl (AK (A2 ?_))))
 refine AR (XI (v:=v_P) (items:=aqD) (by kernel_rfl) (apL l u0 u1 u2 u3 u4 hi lo _) (by kernel_rfl) (by kernel_rfl) ?_)
 (refine ob07 fms fun f0 f1 f2 f3 f4 f5 ζ1=>?_; refine ob03 ζ1 ?_; clear ζ1; intro f6 f7 f8)
 refine DH (apM l u0 u1 u2 u3 u4 hi lo _) (A1 (apN l u0 u1 u2 u3 u4 hi lo a0 j0) (DN f0 (by decide) ha0 hl s3 fun a1 j1 ha1 hj1=>DA ?_))
 refine DH (FM l u0 u1 u2 u3 u4 hi lo _ _) (A1 (apO l u0 u1 u2 u3 u4 hi lo a1 j1) (DN f1 (by decide) ha1 hl hj1 fun a2 j2 ha2 hj2=>DA ?_))
 refine DH (FM l u0 u1 u2 u3 u4 hi lo _ _) (A1 (apP l u0 u1 u2 u3 u4 hi lo a2 j2) (DN f2 (by decide) ha2 hl hj2 fun a3 j3 ha3 hj3=>DA ?_))
 refine DH (FM l u0 u1 u2 u3 u4 hi lo _ _) (A1 (apQ l u0 u1 u2 u3 u4 hi lo a3 j3) (DN f3 (by decide) ha3 hl hj3 fun a4 j4 ha4 hj4=>DA ?_))
 refine DH (FM l u0 u1 u2 u3 u4 hi lo _ _) (A1 (apR l u0 u1 u2 u3 u4 hi lo a4 j4) (DN f4 (by decide) ha4 hl hj4 fun a5 j5 ha5 hj5=>DA ?_))
 refine DH (FM l u0 u1 u2 u3 u4 hi lo _ _) (A1 (apS l u0 u1 u2 u3 u4 hi lo a5 j5) (DN f5 (by decide) ha5 hl hj5 fun a6 j6 ha6 hj6=>DA ?_))
 refine DH (FM l u0 u1 u2 u3 u4 hi lo _ _) (A1 (apT l u0 u1 u2 u3 u4 hi lo a6 j6) (DN f6 (by decide) ha6 hl hj6 fun a7 j7 ha7 hj7=>DA ?_))
 refine DH (FM l u0 u1 u2 u3 u4 hi lo _ _) (A1 (apU l u0 u1 u2 u3 u4 hi lo a7 j7) (DN f7 (by decide) ha7 hl hj7 fun a8 j8 ha8 hj8=>DA ?_))
 refine DH (FM l u0 u1 u2 u3 u4 hi lo _ _) (A1 (apV l u0 u1 u2 u3 u4 hi lo a8 j8) (DN f8 (by decide) ha8 hl hj8 fun a9 j9 ha9 hj9=>DA ?_))
 refine AK (A2 ?_)
 refine AR (A1 (avC l u0 u1 u2 u3 u4 hi lo _ _) (JZ ⟨w0.1,by rw [ZK]; exact w0.2⟩ fun r hr=>AK (A2 ?_)))
 obtain ⟨n,f,x,y,z⟩:=r
 have hf:=(YX hr).form
 refine AR (A1 (avD l u0 u1 u2 u3 u4 hi lo n f x y z _ _) (AK (A2 ?_)))
 have c1:=aqC x y z hi lo hf
 have c2:=Q0 15 0 0 (f := "F") (by simp) f7
 have c3:=Q0 115 0 0 (f := "E") (by simp) f8
 have c4:=Q0 115 0 8192 (f := "E") (by simp) f8
 refine AR (A1 (apX l u0 u1 u2 u3 u4 hi lo n x y z _ f hf) (AD c1.1 (AD c2.1 (AD c3.1 (AD c4.1 (AK (A2 ?_)))))))
 exact A1 (apY l u0 u1 u2 u3 u4 hi lo n f x y z _ _) (AD c1.2 (AD c2.2 (AD c3.2 (AD c4.2 (AK ⟨_,_,rfl⟩)))))
end
end Mine
end
section
open PySem.SeqAt MineH
namespace Mine
section
variable {prog:Program} {w:World} {h:Heap}
abbrev sc51:PySem.Scope:=AC 51
abbrev G5 (L a:Addr) (cd:Value):Env:=envOfC "law" sc51 L a cd
def fr51 (L a:Addr) (cd:Value) (G:Heap):Frm:={ env:=G5 L a cd,X:=fun _=>False,base:=G,fr:=fun _=>False,frX:=fun _ h=>h }
theorem ZL {G:Heap} (hG:∃ o,G.get? sysModules=some o) {L a:Addr} {cd:Value} (hL:L=G.objs.size) {h:Heap} {m:Str→Option Value} (F:Fr G L h m) {nl:List (Addr×Obj)} (N:News G L h nl)
  (hc:∀ x c,(x,c)∈cellsFrom (L+1) sc51.names []→∃ o v,(c,o)∈nl∧o.data=.cell v) {env:AEnv}
  (hk:∀ x av,env.lookup x=some av→(G5 L a cd).kindOf x=some .local∧∃ v,m x=some v∧Has prog w (Vw (fr51 L a cd G) [] [] h) [] av v) {s:Shared} (hs:s.heap=h) :
  Inv prog w (fr51 L a cd G) env [] [] s:=by
 subst hs
 have noOwn:∀ b,¬ OwnA [] [] b:=fun b ⟨n,c,h,_⟩=>by simp at h
 refine ⟨F.keep,hG,fun b hb=>?_,⟨m,F.ns,fun x av e k=>(hk x av e).2⟩,fun x av e k=>?_,fun x av e=>.inl (hk x av e).1,fun x c e=>?_,rfl,fun n b σ e _=>(by simp at e),fun n m b c c' h=>(by simp at h),fun b hb=>(noOwn b hb).elim,⟨fun q=>q,fun x c e q=>q⟩,fun b hb=>hb.elim⟩
 ·rcases hb with hb | hb | ⟨x,hb⟩ | hb
  ·exact hb.elim
  ·have hb:b=L:=hb
   refine ob32 F.ns fun o _ _ e _=>?_
   rw [hb]
   exact ⟨by rw [hL]; exact AJ G,o,e⟩
  ·refine ob22 (hc x b hb) fun o v hn _=>?_
   refine ob03 (N _ hn) fun z1 z2 z3=>?_
   exact ⟨z3,o,z1⟩
  ·exact (noOwn b hb).elim
 ·have q:=(hk x av e).1
  have k:(G5 L a cd).kindOf x=some .cell∨(G5 L a cd).kindOf x=some .free:=k
  rw [q] at k
  rcases k with k | k<;>cases k
 ·refine ob22 (hc x c e) fun o v hn hd=>?_
  refine ob03 (N _ hn) fun z1 z2 z3=>?_
  exact ⟨⟨v,o,z1,hd⟩,z2⟩
theorem Q1 (L:Addr):cellsFrom (L+1) sc51.names []=([("form",L+1+1+1+1),("known_rows",L+1+1+1),("pictures",L+1+1),("first",L+1)]:List (Str×Addr)):=by kernel_rfl
theorem B5 {L i j:Nat} (h:L+i=L+j) (hn:i≠j):False:=hn (Nat.add_left_cancel h)
theorem st51 (L a:Addr) (cd:Value) (G:Heap):StOK (fr51 L a cd G):=by
 refine ⟨by kernel_rfl,fun x y c h1 h2=>?_,fun x hx=>?_⟩
 ·have h1:(cellsFrom (L+1) sc51.names []).lookup x=some c:=h1
  have h2:(cellsFrom (L+1) sc51.names []).lookup y=some c:=h2
  rw [Q1] at h1 h2
  have m1:=AF h1
  have m2:=AF h2
  simp only [List.mem_cons,Prod.mk.injEq,List.not_mem_nil,or_false] at m1 m2
  rcases m1 with ⟨p,q⟩ | ⟨p,q⟩ | ⟨p,q⟩ | ⟨p,q⟩<;>rcases m2 with ⟨p',q'⟩ | ⟨p',q'⟩ | ⟨p',q'⟩ | ⟨p',q'⟩<;>first
   | exact p.trans p'.symm
   | exact (B5 (L:=L) (i:=4) (j:=3) (q.symm.trans q') (by decide)).elim
   | exact (B5 (L:=L) (i:=4) (j:=2) (q.symm.trans q') (by decide)).elim
   | exact (B5 (L:=L) (i:=4) (j:=1) (q.symm.trans q') (by decide)).elim
   | exact (B5 (L:=L) (i:=3) (j:=4) (q.symm.trans q') (by decide)).elim
   | exact (B5 (L:=L) (i:=3) (j:=2) (q.symm.trans q') (by decide)).elim
   | exact (B5 (L:=L) (i:=3) (j:=1) (q.symm.trans q') (by decide)).elim
   | exact (B5 (L:=L) (i:=2) (j:=4) (q.symm.trans q') (by decide)).elim
   | exact (B5 (L:=L) (i:=2) (j:=3) (q.symm.trans q') (by decide)).elim
   | exact (B5 (L:=L) (i:=2) (j:=1) (q.symm.trans q') (by decide)).elim
   | exact (B5 (L:=L) (i:=1) (j:=4) (q.symm.trans q') (by decide)).elim
   | exact (B5 (L:=L) (i:=1) (j:=3) (q.symm.trans q') (by decide)).elim
   | exact (B5 (L:=L) (i:=1) (j:=2) (q.symm.trans q') (by decide)).elim
 ·have hx:sc51.names.lookup x=some .cell∨sc51.names.lookup x=some .free:=hx
  have key:∀ y∈sc51.names,y.2≠.free∧(y.2=.cell→y.1 = "form" ∨ y.1 = "known_rows" ∨ y.1 = "pictures" ∨ y.1 = "first"):=by decide +kernel
  have hm:x = "form" ∨ x = "known_rows" ∨ x = "pictures" ∨ x = "first" := by
   rcases hx with hx | hx
   ·exact (key _ (AF hx)).2 rfl
   ·exact absurd rfl (key _ (AF hx)).1
  show ∃ c,(cellsFrom (L+1) sc51.names []).lookup x=some c
  rw [Q1]
  rcases hm with q | q | q | q<;>subst q
  ·exact ⟨L+1+1+1+1,by kernel_rfl⟩
  ·exact ⟨L+1+1+1,by kernel_rfl⟩
  ·exact ⟨L+1+1,by kernel_rfl⟩
  ·exact ⟨L+1,by kernel_rfl⟩
theorem avF (L a:Addr) (cd:Value) (G:Heap):FrmOK (fr51 L a cd G) (callerA.deeper (G5 L a cd)):=by
 refine ⟨by kernel_rfl,rfl,rfl,[G5 L a cd],rfl,fun e he=>?_⟩
 simp only [List.mem_cons,List.not_mem_nil,or_false] at he
 subst he
 exact ⟨by show sc51.kind≠_; rw [show sc51.kind=.function by kernel_rfl]; decide,L,rfl,.inr rfl⟩
theorem aqE (L a:Addr) (cd:Value):Room (callerA.deeper (G5 L a cd)) 5:=⟨by show 1+claimMargin+1+5<_; decide +kernel,by show 4+3+100*5+200<_; decide +kernel,rfl⟩
def stA:Stmt:=stAt (AE 51) 0
def lcE:Expr:=match stA with | .Assign _ v _=>v | _=>.Name "" ⟨0,0,0,0⟩
def scC:PySem.Scope:=match lcE with | .ListComp _ _ s _=>s | _=>sc51
theorem aqF:stA=.Assign [.Name "numbers" ⟨253,4,253,11⟩] (.ListComp (.BinOp (.Name "value" ⟨253,15,253,20⟩) .Mod (.Constant (.int (Int.ofNat 2147483647)) 0 ⟨253,23,253,33⟩) ⟨253,15,253,33⟩)
  [⟨.Name "value" ⟨253,38,253,43⟩,.Subscript (.Name "script" ⟨253,47,253,53⟩) (.Slice none (some (.Constant (.int (Int.ofNat 24)) 0 ⟨253,55,253,57⟩)) none ⟨253,54,253,57⟩) ⟨253,47,253,58⟩,[],0⟩] scC ⟨253,14,253,59⟩) ⟨253,4,253,59⟩:=by kernel_rfl
noncomputable def numL (ns:List Int):List Int:=(ns.take 24).map fun i=>i.fmod 2147483647
theorem II:∀ {ys:List Value} {ns:List Int},CarriedAll ys (ns.map fun i=>.int (i.fmod 2147483647))→IntsA (ns.map fun i=>i.fmod 2147483647) ys
 | [],[],_=>rfl
 | y :: ys,n :: ns,h=>by
  cases h with
  | cons h1 h2=>
   cases h1 with
   | int i t=>exact ⟨t,ys,rfl,II h2⟩
theorem abY {G:Heap} {L a ax:Addr} {cd:Value} {h₁:Heap} {m:Str→Option Value} (F:Fr G L h₁ m) (hm:m "script" = some (.ref ax)) {nl:List (Addr×Obj)} (N:News G L h₁ nl) {vs:List Value} (hl:G.IsList ax vs.toArray) {ns:List Int} (hi:IntsAre vs ns) (hn:ns.length≤63)
  {g:Array GenState} {d:Drawn} {tk:Nat} {os:OsState} {Q:Flow→Shared→Prop} {E:Value→Shared→Prop}
  (hQ:∀ D ys h' tk',Fr G L h' (fun z=>if z = "numbers" then some (.ref D) else m z)→News G L h' nl→G.get? D=none→NewPlain h' nl D ys.toArray→IntsA (numL ns) ys→Q .next ⟨h',g,d,tk',os⟩) :
  wpAny (model prog w) (callerA.deeper (G5 L a cd)) (exec stA (G5 L a cd)) Q E ⟨h₁,g,d,tk,os⟩:=by
 rw [aqF]
 have kS:(G5 L a cd).kindOf "script" = some .local:=by kernel_rfl
 have hk:sc51.kind=.function:=by kernel_rfl
 refine Assign_ListComp_DCn (K:=.int) (pz:=fun _=>true) (d:=fun i=>.int (i.fmod 2147483647)) (h₀:=G) (L:=L) (m:=m) (cl:=[]) (by kernel_rfl) rfl rfl (by kernel_rfl) (by decide +kernel) (by kernel_rfl) (by decide +kernel) (by kernel_rfl) (by kernel_rfl) (by kernel_rfl) ?_ (fun _=>rfl)
 refine Subscript_ (wpAny_Name (wpAny_loadName_local hk kS F.ns hm ?_) (by decide +kernel))
 have len:vs.length=ns.length:=hi.length
 have kC:(compEnvC scC [] 0 (G5 L a cd)).scope.kind=.function:=by kernel_rfl
 refine wpAny_Slice (wpAny_pure (wpAny_Constant_int (k:=0) (pos:=⟨253,55,253,57⟩) (wpAny_pure ?_)))
 let s₂:Shared:=⟨h₁.push { cls:=.type "slice",data:=.fields #[.none,.int (Int.ofNat 24) tk,.none] },g,d,tk+1,os⟩
 have k₂:∀ b o,h₁.get? b=some o→s₂.heap.get? b=some o:=fun b o e=>Heap.get?_push_of_some _ e
 have hl₂:s₂.heap.IsList ax vs.toArray:=by
  (refine ob12 hl ?_; clear hl; intro o e r)
  exact ⟨o,k₂ _ _ (F.keep _ _ e),r⟩
 refine tail_any (T := "list") hl₂.typeIs PySem.F.slot_list_getitem.lookup (wpAny_getItem_list_slice hl₂ (Heap.IsSliceOf.new ..) .none (.int _ _) .none (by simp) ?_ (by rw [List.size_toArray,len]; exact BM (by omega))) rfl
 rw [show (Int.ofNat 24)=((24:Nat):Int) from rfl,slicePick_upto']
 have take:IntsAre (vs.take 24) (ns.take 24):=by
  have:∀ {vs:List Value} {ns:List Int} (n:Nat),IntsAre vs ns→IntsAre (vs.take n) (ns.take n):=by
   intro vs ns n hh
   induction hh generalizing n with
   | nil=>simpa using IntsAre.nil
   | cons i t h ih=>
    cases n with
    | zero=>simpa using IntsAre.nil
    | succ n=>exact .cons i t (ih n)
  exact this 24 hi
 generalize hH:s₂.heap.push _=H
 have k₃:∀ b o,h₁.get? b=some o→H.get? b=some o:=fun b o e=>by rw [← hH]; exact Heap.get?_push_of_some _ (k₂ b o e)
 refine ⟨nl,_,vs.take 24,ns.take 24,rfl,?_,take.areOf,?_,⟨F.ns.keeps k₃,fun b o e=>k₃ b o (F.keep b o e),F.above⟩,fun p hp=>⟨k₃ _ _ (N p hp).1,(N p hp).2⟩,?_,?_,?_⟩
 ·rw [← hH]
  exact ⟨_,Heap.get?_push_size _ rfl,rfl,0,rfl⟩
 ·exact BM (by rw [List.length_take]; omega)
 ·intro C b v s₃ m₃ E' _ _ _ _ _ _
  exact wpAny_pure ⟨rfl,s₃.heap,s₃.toks,rfl,fun _ _ e=>e⟩
 ·intro C b v s₃ m₃ E' _ _ hv _ hns hmv _
  (refine ob11 hv ?_; clear hv; intro t ζ1; subst ζ1)
  have kV:(compEnvC scC [] C (G5 L a cd)).kindOf "value" = some .local:=by kernel_rfl
  have kF:(compEnvC scC [] C (G5 L a cd)).scope.kind=.function:=by kernel_rfl
  refine wpAny_BinOp (wpAny_Name (wpAny_loadName_local kF kV hns hmv ?_) (by decide +kernel))
  refine wpAny_Constant_int (PyProof.Rows.mod_int (by decide) ?_)
  exact ⟨.int _ _,s₃.heap,_,rfl,fun _ _ e=>e⟩
 ·intro D ys h' tk' F' N' hD _ hP hc
  refine hQ D ys h' _ F' N' hD hP (II ?_)
  rw [List.filter_eq_self.mpr (fun _ _=>rfl)] at hc
  exact hc
theorem abZ {G:Heap} (X:(Kx w.params).In G) (lim:G.NoLimit) {L a ax:Addr} (hL:L=G.objs.size) {cd:Value} {h₁:Heap} {m:Str→Option Value} (F:Fr G L h₁ m) (hm:m "script" = some (.ref ax)) {nl:List (Addr×Obj)} (N:News G L h₁ nl)
  (hc:∀ x c,(x,c)∈cellsFrom (L+1) sc51.names []→∃ o v,(c,o)∈nl∧o.data=.cell v) {vs:List Value} (hl:G.IsList ax vs.toArray) {ns:List Int} (hi:IntsAre vs ns) (hn:ns.length≤63)
  {g:Array GenState} {d:Drawn} {tk:Nat} {os:OsState} {Q:Flow→Shared→Prop} {E:Value→Shared→Prop}
  (hQ:∀ h' d' tk',(∀ b o,G.get? b=some o→h'.get? b=some o)→Q (.ret (.bool true)) ⟨h',g,d',tk',os⟩) :
  wpAny (model prog w) (callerA.deeper (G5 L a cd)) (execs (AE 51) (G5 L a cd)) Q E ⟨h₁,g,d,tk,os⟩:=by
 have sm:∃ o,G.get? sysModules=some o:=CJ X
 rw [apZ]
 refine wpAny_execs_cons (abY F hm N hl hi hn fun D ys h' tk' F' N' hD hP hys=>?_)
 (refine ob02 hP ?_; clear hP; intro ζ1 hne; refine ob11 ζ1 ?_; clear ζ1; intro k hPl)
 have hDL:D≠L:=fun q=>by
  refine ob33 F'.ns fun o es ep e dd _=>?_
  rw [q,e] at hPl
  injection hPl with hPl
  rw [hPl] at dd
  exact nomatch dd
 have hv:Has prog w (Vw (fr51 L a cd G) [] [] h') [] (.ints (numL ns)) (.ref D):=by
  refine ⟨D,ys,k,rfl,⟨hPl,fun q=>?_,?_⟩,hys⟩
  ·rcases q with q | q | ⟨x,q⟩ | ⟨n,c,q,_⟩
   ·exact q
   ·exact hDL q
   ·refine ob22 (hc x D q) fun o v hin _=>?_
    exact hne _ hin rfl
   ·simp at q
  ·(refine ob11 sm ?_; clear sm; intro o e)
   exact beq_eq_false_iff_ne.mpr fun q=>by rw [q,e] at hD; cases hD
 have I:=ZL (prog:=prog) (w:=w) (a:=a) (cd:=cd) sm hL F' N' hc (env:=L0 (numL ns)) (fun x av e=>by
  unfold L0 at e
  rw [List.lookup_cons] at e
  split at e
  ·rename_i q
   injection e with e
   subst e
   have q:=eq_of_beq q
   subst q
   exact ⟨by kernel_rfl,.ref D,by simp,hv⟩
  ·cases e) (s:=⟨h',g,d,tk',os⟩) rfl
 have len:(numL ns).length<1000:=by
  unfold numL
  rw [List.length_map,List.length_take]; omega
 have R:=(abX len).out
 refine F8 (EO:=fun _ _=>False) (auV X lim) (aqE L a cd) 60 (fr51 L a cd G) rfl (avF L a cd G) (st51 L a cd G) (H4 rfl) aeK (L0 (numL ns)) [] [] _ I _ False _ _ R (fun f s' hq=>?_) (fun hx=>hx.elim)
 (refine ob44 hq ?_; clear hq; intro fl env' sl' ρ' I' ev hf ζ1; refine ob21 ζ1 ?_; clear ζ1; intro env'' sl'' hp)
 have hfl:fl=.ret (.bool true):=congrArg (·.1) hp
 subst hfl
 (refine ob12 hf ?_; clear hf; intro v hf hv')
 have hv':v=.bool true:=hv'
 subst hf hv'
 obtain ⟨hh,gg,dd,tt,oo⟩:=s'
 have e1:gg=g:=ev.gens
 have e3:oo=os:=ev.os
 subst e1 e3
 exact hQ hh dd tt I'.base
end
end Mine
end
section
open PySem.SeqAt MineH
namespace Mine
section
theorem aqG:dLaw.body=AE 51∧dLaw.scope=sc51∧dLaw.name=("law" : Str):=⟨by kernel_rfl,by kernel_rfl,by kernel_rfl⟩
theorem VD {p:Program} {loose:List Str} {mean:ExcName→Option Value} {mg mb:Str→Option Value} {h:Heap} (T:Top p loose mean mg mb h) {name:Str} (hf:((recsOf p).find? (fun e=>e.name==name)).isSome=true) {a:Addr} {o:Obj} {fd:FuncData} (hm:mg name=some (.ref a)) (ho:h.get? a=some o) (hd:o.data=.func fd) :
  ∃ c P,fd.code=.ref c∧Based h h c P #[]:=ob11 (Option.isSome_iff_exists.mp hf) fun _ e=>based_of_top T e hm ho hd
theorem aqH {n0 n1 n2 n3:Str} {a0 a1 a2 a3:Addr} {o0 o1 o2 o3:Obj} {C:Obj→Prop} (l0:C o0) (l1:C o1) (l2:C o2) (l3:C o3):∀ x c,(x,c)∈[(n0,a0),(n1,a1),(n2,a2),(n3,a3)]→∃ o,(c,o)∈[(a0,o0),(a1,o1),(a2,o2),(a3,o3)]∧C o:=fun x c hx=>
 have k {q:Str×Addr} {l:List (Str×Addr)} (h:∃ o,(q.2,o)∈[(a0,o0),(a1,o1),(a2,o2),(a3,o3)]∧C o) (g:∀ p∈l,∃ o,(p.2,o)∈[(a0,o0),(a1,o1),(a2,o2),(a3,o3)]∧C o):∀ p∈q :: l,∃ o,(p.2,o)∈[(a0,o0),(a1,o1),(a2,o2),(a3,o3)]∧C o:=List.forall_mem_cons.mpr ⟨h,g⟩
 k (q:=(n0,a0)) ⟨o0,.head _,l0⟩ (k (q:=(n1,a1)) ⟨o1,.tail _ (.head _),l1⟩ (k (q:=(n2,a2)) ⟨o2,.tail _ (.tail _ (.head _)),l2⟩ (k (q:=(n3,a3)) ⟨o3,.tail _ (.tail _ (.tail _ (.head _))),l3⟩ fun _ h=>(List.not_mem_nil h).elim))) (x,c) hx
theorem acA {cls:Str→Option Addr} {h:Heap} {w0:World} {G:List WData→List Value→Prop} (k:∀ (ns:List Int) (ax:Addr) (vs:List Value),h.IsList ax vs.toArray→IntsAre vs ns→ns.length≤63→G [ofPy (.list (ns.map .int))] [.ref ax]) :
  ∀ args vals as,rwl.row.claim.pre args=true→WData.layableAll args=true→ReadsAllW rwl.row.records cls h vals args as→WellAll w0.params h vals args→(∀ a∈as,(a==sysModules)=false)→G args vals:=by
 intro args vals as hpre hlay hrd hwl hlo
 wrow_args hpre hlay hrd hwl hlo
 rename_i ns hs hlay0 hL1 hr1 hl2 as8 as7 ax vs as4 hL ra w1 r0 hI hr2 hcond hcond'
 exact k ns ax vs hL hI (by omega)
theorem law_all:rwl.Holds:=hd (by
 k_fill
 intro w0 s0 s1 mg mb G0 Y fa o pm cd doc dV kV ho hd0 hcd hD hmg hg args vals as hpre hlay hrd hwl hlo
 have KX:=kIn_of Y
 refine Ground.open G0 ?_
 intro T B D TE TW
 refine guard_noD D (by decide +kernel) ?_
 clear D
 refine ob21 (bmod_of_top T) fun w11 o12 M=>?_
 have TA:=at_of_top T
 refine ob22 (VD T (by kernel_rfl) hmg ho hd0) fun cc PP he B0=>?_
 have he':cd=.ref cc:=he
 subst he'
 clear he hmg
 revert args vals as
 refine acA fun ns ax vs hL hI hn=>?_
 all_goals (
  first | refine callC_kw (enter_call ?_) | refine enter_call ?_ | refine callC_kw (enter_callW ?_) | refine enter_callW ?_ | w_how
  w_top on
  try refine codeAny_mono ?_ (fun _ _ g=>GoodW.toG g)
  have K0:=below_caller (Top.heap T)
  w_call any ho hd0 hcd hD T F
  clear hd0 TA
  k_drop)
 rename_i h1 tk c3 c2 c1 c0 l2 l1 l0 r N X0
 have hm:=F
 have lim:=T.nolimit
 clear X0 hD K0 hcd M TW TE B T Y
 refine ob03 aqG fun b1 b2 b3=>?_
 have hc:∀ x c,(x,c)∈cellsFrom (s1.heap.objs.size+1) sc51.names []→∃ o v,(c,o)∈[(s1.heap.objs.size+1+1+1+1,c3),(s1.heap.objs.size+1+1+1,c2),(s1.heap.objs.size+1+1,c1),(s1.heap.objs.size+1,c0)]∧o.data=.cell v:=fun x c hx=>by
  rw [Q1] at hx
  exact ob12 (aqH (C:=fun o=>∃ v,o.data=.cell v) ⟨_,l2⟩ ⟨_,l1⟩ ⟨_,l0⟩ ⟨_,r⟩ x c hx) fun o m q=>ob11 q fun v q=>⟨o,v,m,q⟩
 rw [b1,b2,b3]
 refine abZ KX lim rfl F ?_ N hc hL hI hn (fun h' d' tk' keep=>?_)
 ·kernel_rfl
 ·exact ⟨.inl ⟨.bool true,.bool true,[],rfl,fun cls=>by kernel_rfl,.bool true,by kernel_rfl,fun _=>⟨List.nodup_nil,fun _ hm=>(nomatch hm)⟩⟩,keep,rfl,hg⟩)
end
end Mine
end
end
theorem PySem.Challenge.cw_nm0009_01_holds : PySem.Challenge.rw_nm0009_01.Holds :=
  Mine.law_all
